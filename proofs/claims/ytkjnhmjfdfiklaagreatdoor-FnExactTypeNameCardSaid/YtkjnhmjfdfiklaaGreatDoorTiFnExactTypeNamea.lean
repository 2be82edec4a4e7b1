/- The ties: the program's text comes to the plain functions. Nothing is assumed. -/
import Derived.Test.YtkjnhmjfdfiklaaGreatDoorFza
import Derived.Test.YtkjnhmjfdfiklaaGreatDoorFwd
import Derived.Test.YtkjnhmjfdfiklaaGreatDoorProg
import Derived.Test.YtkjnhmjfdfiklaaGreatDoorPuFnExactTypeNamea
import Derived.Test.YtkjnhmjfdfiklaaGreatDoorPuFnExactTypeNameb
noncomputable section
set_option linter.defProp false
set_option linter.unusedSectionVars false
set_option linter.unusedVariables false
set_option linter.unusedSimpArgs false
set_option maxRecDepth 100000
namespace Go.Fw
open Go.Proofs
def bm:bw:=tj [
 (2,⟨false,.int .i64,[.int .i64 0],[],none,8⟩),
 (3,⟨false,.int .i64,[.int .i64 0],[],none,8⟩),
 (4,⟨false,.bool,[.bool false],[],none,1⟩),
 (5,⟨false,.int .u8,[.int .u8 0],[],none,1⟩),
 (6,⟨false,.int .u8,[.int .u8 0],[],none,1⟩),
 (7,⟨true,.pair (.int .i64) (.pair (.int .i64) (.pair (.bool) (.int .u8))),[.int .i64 0,.int .i64 0,.bool false,.int .u8 0],[(0,1,false),(1,1,false),(2,1,false),(3,1,false)],none,24⟩),
 (8,⟨true,.pair (.int .i64) (.pair (.int .i64) (.pair (.bool) (.int .u8))),[.int .i64 0,.int .i64 0,.bool false,.int .u8 0],[(0,1,false),(1,1,false),(2,1,false),(3,1,false)],none,24⟩),
 (9,⟨false,.str,[.str ByteArray.empty],[],none,16⟩),
 (10,⟨false,.str,[.str ByteArray.empty],[],none,16⟩),
 (11,⟨false,.str,[.str ByteArray.empty],[],none,16⟩),
 (12,⟨false,.int .u64,[.int .u64 0],[],none,8⟩),
 (13,⟨true,.pair (.str) (.int .u64),[.str ByteArray.empty,.int .u64 0],[(0,1,false),(1,1,false)],none,24⟩),
 (14,⟨true,.pair (.str) (.int .u64),[.str ByteArray.empty,.int .u64 0],[(0,1,false),(1,1,false)],none,24⟩),
 (20,⟨false,.err,[.err false],[],none,16⟩),
 (21,⟨false,.int .i32,[.int .i32 0],[],none,4⟩),
 (22,⟨false,.sl 3 (.int .i64),[.nil],[],some 3,24⟩),
 (23,⟨true,.pair (.int .i64) (.pair (.int .i64) (.sl 3 (.int .i64))),[.int .i64 0,.int .i64 0,.nil],[(0,1,false),(1,1,false),(2,1,false)],none,40⟩),
 (24,⟨true,.pair (.int .i64) (.pair (.int .i64) (.sl 3 (.int .i64))),[.int .i64 0,.int .i64 0,.nil],[(0,1,false),(1,1,false),(2,1,false)],none,40⟩),
 (27,⟨true,.pair (.int .i64) (.pair (.int .i64) (.sl 3 (.int .i64))),[.int .i64 0,.int .i64 0,.nil],[(0,1,false),(1,1,false),(2,1,false)],none,40⟩),
 (31,⟨false,.sl 27 (.pair (.int .i64) (.pair (.int .i64) (.sl 3 (.int .i64)))),[.nil],[],some 27,24⟩),
 (37,⟨false,.sl 5 (.int .u8),[.nil],[],some 5,24⟩),
 (52,⟨false,.sl 22 (.sl 3 (.int .i64)),[.nil],[],some 22,24⟩),
 (59,⟨false,.pair (.str) (.sl 0 .bool),[.undef],[],none,8⟩),
 (70,⟨false,.sl 9 (.str),[.nil],[],some 9,24⟩),
 (96,⟨false,.int .u64,[.int .u64 0],[],none,8⟩),
 (97,⟨true,.pair (.sl 5 (.int .u8)) (.pair (.int .i64) (.int .i64)),[.nil,.int .i64 0,.int .i64 0],[(0,1,false),(1,1,false),(2,1,false)],none,40⟩),
 (98,⟨true,.pair (.sl 5 (.int .u8)) (.pair (.int .i64) (.int .i64)),[.nil,.int .i64 0,.int .i64 0],[(0,1,false),(1,1,false),(2,1,false)],none,40⟩),
 (102,⟨false,.err,[.err false],[],none,16⟩),
 (103,⟨false,.err,[.err false],[],none,16⟩),
 (109,⟨false,.sl 4 (.bool),[.nil],[],some 4,24⟩),
 (122,⟨false,.int .i64,[.int .i64 0],[],none,8⟩),
 (130,⟨false,.int .u32,[.int .u32 0],[],none,4⟩),
 (132,⟨false,.int .u64,[.int .u64 0],[],none,8⟩),
 (150,⟨false,.int .u64,[.int .u64 0],[],none,8⟩),
 (159,⟨false,.int .i64,[.int .i64 0],[],none,8⟩),
 (179,⟨true,.pair (.str) (.pair (.str) (.err)),[.str ByteArray.empty,.str ByteArray.empty,.err false],[(0,1,false),(1,1,false),(2,1,false)],none,48⟩),
 (180,⟨true,.pair (.str) (.pair (.str) (.err)),[.str ByteArray.empty,.str ByteArray.empty,.err false],[(0,1,false),(1,1,false),(2,1,false)],none,48⟩),
 (189,⟨true,.pair (.int .u8) (.int .u8),[.int .u8 0,.int .u8 0],[(0,1,false),(1,1,false)],none,2⟩),
 (190,⟨true,.pair (.int .u8) (.int .u8),[.int .u8 0,.int .u8 0],[(0,1,false),(1,1,false)],none,2⟩),
 (196,⟨true,.str,[.str ByteArray.empty],[(0,1,false)],none,16⟩),
 (197,⟨true,.str,[.str ByteArray.empty],[(0,1,false)],none,16⟩),
 (209,⟨false,.int .u8,[.int .u8 0],[],none,1⟩),
 (210,⟨false,.int .u8,[.int .u8 0],[],none,1⟩),
 (212,⟨false,.int .i32,[.int .i32 0],[],none,4⟩),
 (213,⟨false,.int .i32,[.int .i32 0],[],none,4⟩)]
def bq:bg Tryz.prog bm:=bg.of (by kernel_rfl)
def Aj : List (String × IntKind × List Int) := [("internal/strconv.uint64pow10", .u64, Lib.pow10Tab)]
def Ge:List (String×IntKind):=[]
def Gf:List String:=[]
instance:Inv Tryz.prog:=Inv.tabs _ Aj Ge Gf
theorem Qw (w : World) (h : Inv.I Tryz.prog w) : Lib.TabIs Tryz.prog w "internal/strconv.uint64pow10" .u64 Lib.pow10Tab := Inv.tab_mem (q := Ge) (es := Gf) ("internal/strconv.uint64pow10", .u64, Lib.pow10Tab) (List.mem_of_getElem? (i := 0) rfl) w h
end Go.Fw
namespace Go.Fw
variable {J : Type}
open Go.Proofs
def Gg:aW:=⟨[⟨.sl 3 (.int .i64),false,false⟩,⟨.int .i64,false,false⟩],[⟨.int .i64,false,false⟩]⟩
def Ak:aK:=⟨Gg,none,λX=>((),((fZ.g X.1 X.2.1),()))⟩
def Gh:Gm:=bi
def Qx:aw Tryz.prog Gh:=aw.nil
def Qy:ab:=⟨[],[],[],[],[]⟩
def Qz(a:LI)(b:Int):St:=be Gg.ps (a,(b,()))
def QA(a:Int):St:=af [(4,xi a)] [] []
def QB:ab:=⟨[4],[],[],[],[]⟩
def QC:Nat->Option ab:=az [(1000000,QB)]
abbrev QD{J:Type}(N n:Nat)(U:St)(l:ab)(K:KT J):Option J:=an Gh bm QC N (a8 99 (bn Tryz.f39) n) .n U (ay (some l) K)
def QE N a b (K:KT J):QD N 1 (Qz a b) Qy K =
 fZ.Z0 N a b (λc=>K .ret (QA c)):=by kernel_rfl
def QF(h:fZ.Spec):av Tryz.prog 39 Ak :=
 bu Tryz.func39 bq Qx (λN X K=>QE N X.1 X.2.1 K) (by kernel_rfl) λX hb hp=>by obtain⟨a,b,_⟩:=X;obtain⟨N,h⟩:=h a b hb.1;exact⟨N,Eq.trans (by kernel_rfl) (h N (Nat.le_refl N))⟩
def QG:av Tryz.prog 39 Ak:=QF fZ.ok
def Gi:aW:=⟨[⟨.pair (.int .i64) (.pair (.int .i64) (.sl 3 (.int .i64))),true,false⟩,⟨.int .i64,false,false⟩],[⟨.int .i64,false,false⟩]⟩
def e9:aK:=⟨Gi,none,λX=>((),((jP.g X.1 X.2.1),()))⟩
def Gj:Gm:=aD bi 39 Ak
def QH:aw Tryz.prog Gj:=(aw.nil).add QG (by kernel_rfl)
def QI:ab:=⟨[],[],[],[],[]⟩
def QJ(a:MT)(b:Int):St:=be Gi.ps (a,(b,()))
def QK(a:Int):St:=af [(4,xi a)] [] []
def QL:ab:=⟨[4],[],[],[],[]⟩
def QM:Nat->Option ab:=az [(1000000,QL)]
abbrev QN{J:Type}(N n:Nat)(U:St)(l:ab)(K:KT J):Option J:=an Gj bm QM N (a8 99 (bn Tryz.f9) n) .n U (ay (some l) K)
def QO N a b (K:KT J):QN N 1 (QJ a b) QI K =
 jP.Z0 N a b (λc=>K .ret (QK c)):=by kernel_rfl
def QP(h:jP.Spec):av Tryz.prog 9 e9 :=
 bu Tryz.func9 bq QH (λN X K=>QO N X.1 X.2.1 K) (by kernel_rfl) λX hb hp=>by obtain⟨a,b,_⟩:=X;obtain⟨N,h⟩:=h a b hb.1;exact⟨N,Eq.trans (by kernel_rfl) (h N (Nat.le_refl N))⟩
def QQ:av Tryz.prog 9 e9:=QP jP.ok
def Gk:aW:=⟨[⟨.sl 3 (.int .i64),false,false⟩],[⟨.sl 3 (.int .i64),false,false⟩]⟩
def Al:aK:=⟨Gk,(some λX=>dO.P X.1),λX=>((),((dO.g X.1),()))⟩
def Gl:Gm:=bi
def QR:aw Tryz.prog Gl:=aw.nil
def QS:ab:=⟨[],[],[],[],[]⟩
def QT(a:LI):St:=be Gk.ps (a,())
def Gn(a:LI):St:=af [(0,.c (.sn 3 tI a none))] [] []
def QU:ab:=⟨[0],[],[],[],[]⟩
def Gp(a b:LI):St:=af [(0,.c (.sn 3 tI b none)),(3,xo 1000192)] [] [(1000192,(⟨3,.int .i64,a,true,false⟩:ac))]
def QV:ab:=⟨[0,3],[],[],[],[(⟨false,3,0⟩,1000192)]⟩
def ve(a b:LI)(d:Int):St:=af [(0,.c (.sn 3 tI b none)),(3,xo 1000192),(4,xi d)] [] [(1000192,(⟨3,.int .i64,a,true,false⟩:ac))]
def Gq:ab:=⟨[0,3,4],[],[],[],[(⟨false,3,0⟩,1000192)]⟩
def sy(a:LI):St:=af [(3,xo 1000192)] [] [(1000192,(⟨3,.int .i64,a,true,false⟩:ac))]
def Am:ab:=⟨[3],[],[],[],[(⟨false,3,0⟩,1000192)]⟩
def QW(a:LI):St:=af [(2,xo 1000128)] [] [(1000128,(⟨3,.int .i64,a,true,false⟩:ac))]
def QX:ab:=⟨[2],[],[],[],[(⟨false,2,0⟩,1000128)]⟩
def QY:Nat->Option ab:=az [(0,Am),(1000000,QX)]
abbrev sA{J:Type}(N n:Nat)(U:St)(l:ab)(K:KT J):Option J:=an Gl bm QY N (a8 99 (bn Tryz.f41) n) .n U (ay (some l) K)
def QZ N a (K:KT J):sA N 2 (QT a) QU K =
 dO.Z1 N a (λa=>K .nrm (Gn a)):=by kernel_rfl
def Q0 N a (K:KT J):sA N 5 (Gn a) QV K =
 dO.Z3 N a (λb a=>K .nrm (Gp b a)):=by kernel_rfl
def Q1 N a b (K:KT J):sA N 19 (Gp a b) Gq K =
 dO.Z6 N a b (λa b c=>K .nrm (ve a b c)):=by kernel_rfl
def Q2 N a b c (K:KT J):sA N 75 (ve a b c) Gq K =
 dO.Z9 N a b c (λa b c=>K .nrm (ve a b c)) (λa=>K (.exit 0) (sy a)):=by kernel_rfl
def Q3 N (K:KT J):=gS K (dO.Z8L N (λa=>K (.exit 0) (sy a))) (λa b c k=>dO.Z9 N a b c k (λa=>K (.exit 0) (sy a))) (λF a b c=>Q2 N a b c _) (by kernel_rfl)
def Q4 N a b c (K:KT J):=vL (ve a b c) (Q3 N (jK Am K) N a b c) (by kernel_rfl)
def Q5 N a b c (K:KT J):=vB 0 Am K (dO.Z7 N a b c (λa=>K .nrm (sy a))) (Q4 N a b c _) (by kernel_rfl)
def Q6 N a b (K:KT J):=vQ (λk=>dO.Z6 N a b k) (Q1 N a b _) (bZ λa b c=>Q5 N a b c K)
def Q7 N a (K:KT J):sA N 15 (sy a) QS K =
 dO.Z10 N a (λb=>K .ret (QW b)):=by kernel_rfl
def Q8 N a b (K:KT J):=vQ (λk=>dO.Z5 N a b k) (Q6 N a b _) (funext λa=>Q7 N a K)
def Q9 N a (K:KT J):=vQ (λk=>dO.Z3 N a k) (Q0 N a _) (cX λb a=>Q8 N b a K)
def Ra N a (K:KT J):=vQ (λk=>dO.Z1 N a k) (QZ N a _) (funext λa=>Q9 N a K)
def Rb(h:dO.Spec):av Tryz.prog 41 Al :=
 bu Tryz.func41 bq QR (λN X K=>Ra N X.1 K) (by kernel_rfl) λX hb hp=>by obtain⟨a,_⟩:=X;obtain⟨N,h⟩:=h a hb.1 hp;exact⟨N,Eq.trans (by kernel_rfl) (h N (Nat.le_refl N))⟩
def Rc:av Tryz.prog 41 Al:=Rb dO.ok
def Gr:aW:=⟨[⟨.pair (.int .i64) (.pair (.int .i64) (.sl 3 (.int .i64))),true,false⟩],[⟨.pair (.int .i64) (.pair (.int .i64) (.sl 3 (.int .i64))),true,false⟩]⟩
def An:aK:=⟨Gr,(some λX=>f5.P X.1),λX=>((),((f5.g X.1),()))⟩
def Gs:Gm:=aD bi 41 Al
def Re:aw Tryz.prog Gs:=(aw.nil).add Rc (by kernel_rfl)
def Rg:ab:=⟨[],[],[],[],[]⟩
def Rh(a:MT):St:=be Gr.ps (a,())
def Ri(a:LI)(b c:Int):St:=af [(2,xb 2)] [(2,(27,[yi b,yi c,.own 20000130]))] [(20000130,(⟨3,.int .i64,a,true,false⟩:ac))]
def Rj:ab:=⟨[2],[2],[],[],[(⟨true,2,2⟩,20000130)]⟩
def Rk:Nat->Option ab:=az [(1000000,Rj)]
abbrev Rl{J:Type}(N n:Nat)(U:St)(l:ab)(K:KT J):Option J:=an Gs bm Rk N (a8 99 (bn Tryz.f11) n) .n U (ay (some l) K)
def Rm N a (K:KT J):Rl N 1 (Rh a) Rg K =
 f5.Z0 N a (λb c d=>K .ret (Ri b c d)):=by kernel_rfl
def Rn(h:f5.Spec):av Tryz.prog 11 An :=
 bu Tryz.func11 bq Re (λN X K=>Rm N X.1 K) (by kernel_rfl) λX hb hp=>by obtain⟨a,_⟩:=X;obtain⟨N,h⟩:=h a hb.1 hp;exact⟨N,Eq.trans (by kernel_rfl) (h N (Nat.le_refl N))⟩
def Ro:av Tryz.prog 11 An:=Rn f5.ok
def Gt:aW:=⟨[⟨.int .i64,false,false⟩,⟨.int .i64,false,false⟩,⟨.int .i64,false,false⟩],[⟨.bool,false,false⟩]⟩
def Ao:aK:=⟨Gt,none,λX=>((),((jq.g X.1 X.2.1 X.2.2.1),()))⟩
def Gu:Gm:=bi
def Rp:aw Tryz.prog Gu:=aw.nil
def Rq:ab:=⟨[],[],[],[],[]⟩
def Rr(a b c:Int):St:=be Gt.ps (a,(b,(c,())))
def Rs(a:Bool):St:=af [(6,xB a)] [] []
def Rt:ab:=⟨[6],[],[],[],[]⟩
def Ru:Nat->Option ab:=az [(1000000,Rt)]
abbrev Rv{J:Type}(N n:Nat)(U:St)(l:ab)(K:KT J):Option J:=an Gu bm Ru N (a8 99 (bn Tryz.f104) n) .n U (ay (some l) K)
def Rw N a b c (K:KT J):Rv N 1 (Rr a b c) Rq K =
 jq.Z0 N a b c (λd=>K .ret (Rs d)):=by kernel_rfl
def Rx(h:jq.Spec):av Tryz.prog 104 Ao :=
 bu Tryz.func104 bq Rp (λN X K=>Rw N X.1 X.2.1 X.2.2.1 K) (by kernel_rfl) λX hb hp=>by obtain⟨a,b,c,_⟩:=X;obtain⟨N,h⟩:=h a b c;exact⟨N,Eq.trans (by kernel_rfl) (h N (Nat.le_refl N))⟩
def Ry:av Tryz.prog 104 Ao:=Rx jq.ok
def Gv:aW:=⟨[⟨.pair (.int .i64) (.pair (.int .i64) (.sl 3 (.int .i64))),true,false⟩,⟨.int .i64,false,false⟩,⟨.int .i64,false,false⟩],[⟨.int .i64,false,false⟩]⟩
def jG:aK:=⟨Gv,(some λX=>aR.P X.1 X.2.1 X.2.2.1),λX=>((),((aR.g X.1 X.2.1 X.2.2.1),()))⟩
def Gw:Gm:=bi
def Rz:aw Tryz.prog Gw:=aw.nil
def RA:ab:=⟨[],[],[],[],[]⟩
def RB(a:MT)(b c:Int):St:=be Gv.ps (a,(b,(c,())))
def RC(a:Int):St:=af [(6,xi a)] [] []
def RD:ab:=⟨[6],[],[],[],[]⟩
def RE:Nat->Option ab:=az [(1000000,RD)]
abbrev RF{J:Type}(N n:Nat)(U:St)(l:ab)(K:KT J):Option J:=an Gw bm RE N (a8 99 (bn Tryz.f105) n) .n U (ay (some l) K)
def RG N a b c (K:KT J):RF N 1 (RB a b c) RA K =
 aR.Z0 N a b c (λd=>K .ret (RC d)):=by kernel_rfl
def RH(h:aR.Spec):av Tryz.prog 105 jG :=
 bu Tryz.func105 bq Rz (λN X K=>RG N X.1 X.2.1 X.2.2.1 K) (by kernel_rfl) λX hb hp=>by obtain⟨a,b,c,_⟩:=X;obtain⟨N,h⟩:=h a b c hb.1 hp;exact⟨N,Eq.trans (by kernel_rfl) (h N (Nat.le_refl N))⟩
def kW:av Tryz.prog 105 jG:=RH aR.ok
def Gx:aW:=⟨[⟨.pair (.int .i64) (.pair (.int .i64) (.sl 3 (.int .i64))),true,false⟩],[⟨.bool,false,false⟩]⟩
def vg:aK:=⟨Gx,none,λX=>((),((cp.g X.1),()))⟩
def Gy:Gm:=aD (aD bi 104 Ao) 105 jG
def RI:aw Tryz.prog Gy:=((aw.nil).add Ry (by kernel_rfl)).add kW (by kernel_rfl)
def RJ:ab:=⟨[],[],[],[],[]⟩
def RK(a:MT):St:=be Gx.ps (a,())
def kX(a b:Int)(c:LI):St:=af [(1,xb 1)] [(1,(27,[yi a,yi b,.sn 3 tI c none]))] []
def sB:ab:=⟨[1],[1],[],[],[]⟩
def vh(a b c:Int)(d:LI):St:=af [(1,xb 1),(3,xi a)] [(1,(27,[yi b,yi c,.sn 3 tI d none]))] []
def Gz:ab:=⟨[1,3],[1],[],[],[]⟩
def jc(a b c:Int)(d:LI):St:=af [(1,xb 1),(4,xi a)] [(1,(27,[yi b,yi c,.sn 3 tI d none]))] []
def l6:ab:=⟨[1,4],[1],[],[],[]⟩
def vj(a b c d:Int)(e:LI):St:=af [(1,xb 1),(4,xi a),(5,xi b)] [(1,(27,[yi c,yi d,.sn 3 tI e none]))] []
def GA:ab:=⟨[1,4,5],[1],[],[],[]⟩
def pH :St:=af [] [] []
def Ap:ab:=⟨[],[],[],[],[]⟩
def fN(a:Bool):St:=af [(2,xB a)] [] []
def RL:ab:=⟨[2],[],[],[],[]⟩
def RM:Nat->Option ab:=az [(0,sB),(4,l6),(3,l6),(2,Ap),(1000000,RL)]
abbrev ki{J:Type}(N n:Nat)(U:St)(l:ab)(K:KT J):Option J:=an Gy bm RM N (a8 99 (bn Tryz.f65) n) .n U (ay (some l) K)
def RN N a (K:KT J):ki N 2 (RK a) sB K =
 cp.Z1 N a (λb c d=>K .nrm (kX b c d)):=by kernel_rfl
def RO N a b c (K:KT J):ki N 5 (kX a b c) sB K =
 cp.Z3 N a b c (λa b c=>K .nrm (kX a b c)) (λd=>K .ret (fN d)):=by kernel_rfl
def RP N a b c (K:KT J):ki N 19 (kX a b c) Gz K =
 cp.Z6 N a b c (λd a b c=>K .nrm (vh d a b c)):=by kernel_rfl
def RQ N d a b c (K:KT J):ki N 75 (vh d a b c) Gz K =
 cp.Z9 N d a b c (λd a b c=>K .nrm (vh d a b c)) (λa b c=>K (.exit 0) (kX a b c)) (λe=>K .ret (fN e)):=by kernel_rfl
def RR N (K:KT J):=nA K (cp.Z8L N (λa b c=>K (.exit 0) (kX a b c)) (λd=>K .ret (fN d))) (λe a b c k=>cp.Z9 N e a b c k (λa b c=>K (.exit 0) (kX a b c)) (λd=>K .ret (fN d))) (λF e a b c=>RQ N e a b c _) (by kernel_rfl)
def RS N a b c d (K:KT J):=vL (vh a b c d) (RR N (jK sB K) N a b c d) (by kernel_rfl)
def RT N d a b c (K:KT J):=vB 0 sB K (cp.Z7 N d a b c (λa b c=>K .nrm (kX a b c)) (λe=>K .ret (fN e))) (RS N d a b c _) (by kernel_rfl)
def RU N a b c (K:KT J):=vQ (λk=>cp.Z6 N a b c k) (RP N a b c _) (dn λd a b c=>RT N d a b c K)
def RV N a b c (K:KT J):ki N 39 (kX a b c) l6 K =
 cp.Z12 N a b c (λd a b c=>K .nrm (jc d a b c)):=by kernel_rfl
def RW N a b c d (K:KT J):ki N 279 (jc a b c d) l6 K =
 cp.Z16 N a b c d (λa b c d=>K .nrm (jc a b c d)) (K (.exit 2) pH):=by kernel_rfl
def RX N a b c d (K:KT J):ki N 2199 (jc a b c d) GA K =
 cp.Z20 N a b c d (λa e b c d=>K .nrm (vj a e b c d)):=by kernel_rfl
def RY N a e b c d (K:KT J):ki N 9367 (vj a e b c d) GA K =
 cp.Z23 N a e b c d (λa e b c d=>K .nrm (vj a e b c d)) (λa b c d=>K (.exit 4) (jc a b c d)) (λf=>K .ret (fN f)):=by kernel_rfl
def RZ N (K:KT J):=j8 K (cp.Z22L N (λa b c d=>K (.exit 4) (jc a b c d)) (λe=>K .ret (fN e))) (λa f b c d k=>cp.Z23 N a f b c d k (λa b c d=>K (.exit 4) (jc a b c d)) (λe=>K .ret (fN e))) (λF a f b c d=>RY N a f b c d _) (by kernel_rfl)
def R0 N a b c d e (K:KT J):=vL (vj a b c d e) (RZ N (jK l6 K) N a b c d e) (by kernel_rfl)
def R2 N a e b c d (K:KT J):=vB 4 l6 K (cp.Z21 N a e b c d (λa b c d=>K .nrm (jc a b c d)) (λf=>K .ret (fN f))) (R0 N a e b c d _) (by kernel_rfl)
def R3 N a b c d (K:KT J):=vQ (λk=>cp.Z20 N a b c d k) (RX N a b c d _) (bO λa e b c d=>R2 N a e b c d K)
def R4 N a b c d (K:KT J):=vB 3 l6 K (cp.Z18 N a b c d (λa b c d=>K .nrm (jc a b c d)) (λe=>K .ret (fN e))) (R3 N a b c d _) (by kernel_rfl)
def R5 N a b c d (K:KT J):ki N 919 (jc a b c d) l6 K =
 cp.Z24 N a b c d (λa b c d=>K .nrm (jc a b c d)):=by kernel_rfl
def R6 N a b c d (K:KT J):=vQ (λk=>cp.Z18 N a b c d k (λe=>K .ret (fN e))) (R4 N a b c d _) (dn λa b c d=>R5 N a b c d K)
def R7 N a b c d (K:KT J):=vQ (λk=>cp.Z16 N a b c d k (K (.exit 2) pH)) (RW N a b c d _) (dn λa b c d=>R6 N a b c d K)
def R8 N (K:KT J):=nA K (cp.Z14L N (K (.exit 2) pH) (λa=>K .ret (fN a))) (λb c d e k=>cp.Z15 N b c d e k (K (.exit 2) pH) (λa=>K .ret (fN a))) (λF b c d e=>R7 N b c d e _) (by kernel_rfl)
def R9 N a b c d (K:KT J):=vL (jc a b c d) (R8 N (jK Ap K) N a b c d) (by kernel_rfl)
def Sa N a b c d (K:KT J):=vB 2 Ap K (cp.Z13 N a b c d (K .nrm pH) (λe=>K .ret (fN e))) (R9 N a b c d _) (by kernel_rfl)
def Sb N a b c (K:KT J):=vQ (λk=>cp.Z12 N a b c k) (RV N a b c _) (dn λd a b c=>Sa N d a b c K)
def Sc N  (K:KT J):ki N 31 pH RJ K =
 cp.Z25 N (λa=>K .ret (fN a)):=by kernel_rfl
def Sd N a b c (K:KT J):=vQ (λk=>cp.Z11 N a b c k (λd=>K .ret (fN d))) (Sb N a b c _) (Sc N K)
def Se N a b c (K:KT J):=vQ (λk=>cp.Z5 N a b c k (λd=>K .ret (fN d))) (RU N a b c _) (bZ λa b c=>Sd N a b c K)
def Sf N a b c (K:KT J):=vQ (λk=>cp.Z3 N a b c k (λd=>K .ret (fN d))) (RO N a b c _) (bZ λa b c=>Se N a b c K)
def Sg N a (K:KT J):=vQ (λk=>cp.Z1 N a k) (RN N a _) (bZ λb c d=>Sf N b c d K)
def Sh(h:cp.Spec):av Tryz.prog 65 vg :=
 bu Tryz.func65 bq RI (λN X K=>Sg N X.1 K) (by kernel_rfl) λX hb hp=>by obtain⟨a,_⟩:=X;obtain⟨N,h⟩:=h a hb.1;exact⟨N,Eq.trans (by kernel_rfl) (h N (Nat.le_refl N))⟩
def GB:av Tryz.prog 65 vg:=Sh cp.ok
def GC:aW:=⟨[⟨.sl 3 (.int .i64),false,false⟩,⟨.int .i64,false,false⟩],[⟨.bool,false,false⟩]⟩
def sC:aK:=⟨GC,none,λX=>((),((dv.g X.1 X.2.1),()))⟩
def GD:Gm:=bi
def Si:aw Tryz.prog GD:=aw.nil
def Sj:ab:=⟨[],[],[],[],[]⟩
def Sk(a:LI)(b:Int):St:=be GC.ps (a,(b,()))
def GE(a:LI)(b:Int):St:=af [(0,.c (.sn 3 tI a none)),(1,xi b)] [] []
def Sl:ab:=⟨[0,1],[],[],[],[]⟩
def vk(a:LI)(b d:Int):St:=af [(0,.c (.sn 3 tI a none)),(1,xi b),(5,xi d)] [] []
def GF:ab:=⟨[0,1,5],[],[],[],[]⟩
def sD :St:=af [] [] []
def Aq:ab:=⟨[],[],[],[],[]⟩
def pI(a:Bool):St:=af [(4,xB a)] [] []
def Sm:ab:=⟨[4],[],[],[],[]⟩
def Sn:Nat->Option ab:=az [(0,Aq),(1000000,Sm)]
abbrev vl{J:Type}(N n:Nat)(U:St)(l:ab)(K:KT J):Option J:=an GD bm Sn N (a8 99 (bn Tryz.f72) n) .n U (ay (some l) K)
def So N a b (K:KT J):vl N 2 (Sk a b) Sl K =
 dv.Z1 N a b (λa b=>K .nrm (GE a b)):=by kernel_rfl
def Sp N a b (K:KT J):vl N 9 (GE a b) GF K =
 dv.Z4 N a b (λa b c=>K .nrm (vk a b c)):=by kernel_rfl
def Sq N a b c (K:KT J):vl N 37 (vk a b c) GF K =
 dv.Z7 N a b c (λa b c=>K .nrm (vk a b c)) (K (.exit 0) sD) (λd=>K .ret (pI d)):=by kernel_rfl
def Sr N (K:KT J):=gS K (dv.Z6L N (K (.exit 0) sD) (λa=>K .ret (pI a))) (λb c d k=>dv.Z7 N b c d k (K (.exit 0) sD) (λa=>K .ret (pI a))) (λF b c d=>Sq N b c d _) (by kernel_rfl)
def Ss N a b c (K:KT J):=vL (vk a b c) (Sr N (jK Aq K) N a b c) (by kernel_rfl)
def Su N a b c (K:KT J):=vB 0 Aq K (dv.Z5 N a b c (K .nrm sD) (λd=>K .ret (pI d))) (Ss N a b c _) (by kernel_rfl)
def Sv N a b (K:KT J):=vQ (λk=>dv.Z4 N a b k) (Sp N a b _) (bZ λa b c=>Su N a b c K)
def Sw N  (K:KT J):vl N 7 sD Sj K =
 dv.Z8 N (λa=>K .ret (pI a)):=by kernel_rfl
def Sx N a b (K:KT J):=vQ (λk=>dv.Z3 N a b k (λc=>K .ret (pI c))) (Sv N a b _) (Sw N K)
def Sy N a b (K:KT J):=vQ (λk=>dv.Z1 N a b k) (So N a b _) (cX λa b=>Sx N a b K)
def Sz(h:dv.Spec):av Tryz.prog 72 sC :=
 bu Tryz.func72 bq Si (λN X K=>Sy N X.1 X.2.1 K) (by kernel_rfl) λX hb hp=>by obtain⟨a,b,_⟩:=X;obtain⟨N,h⟩:=h a b hb.1;exact⟨N,Eq.trans (by kernel_rfl) (h N (Nat.le_refl N))⟩
def Ar:av Tryz.prog 72 sC:=Sz dv.ok
def GG:aW:=⟨[⟨.pair (.int .i64) (.pair (.int .i64) (.sl 3 (.int .i64))),true,false⟩,⟨.int .i64,false,false⟩],[⟨.sl 3 (.int .i64),false,false⟩,⟨.sl 3 (.int .i64),false,false⟩]⟩
def vm:aK:=⟨GG,(some λX=>cg.P X.1 X.2.1),λX=>((),((cg.g X.1 X.2.1).1,((cg.g X.1 X.2.1).2,())))⟩
def GH:Gm:=aD (aD bi 72 sC) 105 jG
def SA:aw Tryz.prog GH:=((aw.nil).add Ar (by kernel_rfl)).add kW (by kernel_rfl)
def SB:ab:=⟨[],[],[],[],[]⟩
def SC(a:MT)(b:Int):St:=be GG.ps (a,(b,()))
def GI(a b c:Int)(d:LI):St:=af [(1,xi a),(2,xb 2)] [(2,(27,[yi b,yi c,.sn 3 tI d none]))] []
def SD:ab:=⟨[1,2],[2],[],[],[]⟩
def GJ(a:LI)(b c d:Int)(e:LI):St:=af [(1,xi b),(2,xb 2),(6,xo 1000384)] [(2,(27,[yi c,yi d,.sn 3 tI e none]))] [(1000384,(⟨3,.int .i64,a,true,false⟩:ac))]
def SE:ab:=⟨[1,2,6],[2],[],[],[(⟨false,6,0⟩,1000384)]⟩
def GK(a b:LI)(c d:Int)(e:LI):St:=af [(2,xb 2),(6,xo 1000384),(7,xo 1000448)] [(2,(27,[yi c,yi d,.sn 3 tI e none]))] [(1000384,(⟨3,.int .i64,a,true,false⟩:ac)),(1000448,(⟨3,.int .i64,b,true,false⟩:ac))]
def SF:ab:=⟨[2,6,7],[2],[],[],[(⟨false,6,0⟩,1000384),(⟨false,7,0⟩,1000448)]⟩
def jd(a b:LI)(c d e:Int)(f:LI):St:=af [(2,xb 2),(6,xo 1000384),(7,xo 1000448),(8,xi c)] [(2,(27,[yi d,yi e,.sn 3 tI f none]))] [(1000384,(⟨3,.int .i64,a,true,false⟩:ac)),(1000448,(⟨3,.int .i64,b,true,false⟩:ac))]
def l7:ab:=⟨[2,6,7,8],[2],[],[],[(⟨false,6,0⟩,1000384),(⟨false,7,0⟩,1000448)]⟩
def vn(a b:LI)(c d e f:Int)(g:LI):St:=af [(2,xb 2),(6,xo 1000384),(7,xo 1000448),(8,xi c),(9,xi d)] [(2,(27,[yi e,yi f,.sn 3 tI g none]))] [(1000384,(⟨3,.int .i64,a,true,false⟩:ac)),(1000448,(⟨3,.int .i64,b,true,false⟩:ac))]
def GL:ab:=⟨[2,6,7,8,9],[2],[],[],[(⟨false,6,0⟩,1000384),(⟨false,7,0⟩,1000448)]⟩
def pJ(a b:LI):St:=af [(6,xo 1000384),(7,xo 1000448)] [] [(1000384,(⟨3,.int .i64,a,true,false⟩:ac)),(1000448,(⟨3,.int .i64,b,true,false⟩:ac))]
def As:ab:=⟨[6,7],[],[],[],[(⟨false,6,0⟩,1000384),(⟨false,7,0⟩,1000448)]⟩
def SG(a b:LI):St:=af [(4,xo 1000256),(5,xo 1000320)] [] [(1000256,(⟨3,.int .i64,a,true,false⟩:ac)),(1000320,(⟨3,.int .i64,b,true,false⟩:ac))]
def SH:ab:=⟨[4,5],[],[],[],[(⟨false,4,0⟩,1000256),(⟨false,5,0⟩,1000320)]⟩
def SI:Nat->Option ab:=az [(2,l7),(1,l7),(0,As),(1000000,SH)]
abbrev kY{J:Type}(N n:Nat)(U:St)(l:ab)(K:KT J):Option J:=an GH bm SI N (a8 99 (bn Tryz.f73) n) .n U (ay (some l) K)
def SJ N b a (K:KT J):kY N 2 (SC b a) SD K =
 cg.Z1 N b a (λa c d e=>K .nrm (GI a c d e)):=by kernel_rfl
def SK N a b c d (K:KT J):kY N 5 (GI a b c d) SE K =
 cg.Z3 N a b c d (λe a b c d=>K .nrm (GJ e a b c d)):=by kernel_rfl
def SL N a e b c d (K:KT J):kY N 11 (GJ a e b c d) SF K =
 cg.Z5 N a e b c d (λa f b c d=>K .nrm (GK a f b c d)):=by kernel_rfl
def SM N a b c d e (K:KT J):kY N 39 (GK a b c d e) l7 K =
 cg.Z8 N a b c d e (λa b f c d e=>K .nrm (jd a b f c d e)):=by kernel_rfl
def SN N a b c d e f (K:KT J):kY N 279 (jd a b c d e f) l7 K =
 cg.Z12 N a b c d e f (λa b c d e f=>K .nrm (jd a b c d e f)) (λa b=>K (.exit 0) (pJ a b)):=by kernel_rfl
def SO N a b c d e f (K:KT J):kY N 2199 (jd a b c d e f) GL K =
 cg.Z16 N a b c d e f (λa b c g d e f=>K .nrm (vn a b c g d e f)):=by kernel_rfl
def SP N a b c g d e f (K:KT J):kY N 9367 (vn a b c g d e f) GL K =
 cg.Z19 N a b c g d e f (λa b c g d e f=>K .nrm (vn a b c g d e f)) (λa b c d e f=>K (.exit 2) (jd a b c d e f)):=by kernel_rfl
def SQ N (K:KT J):=nB K (cg.Z18L N (λa b c d e f=>K (.exit 2) (jd a b c d e f))) (λa b c g d e f k=>cg.Z19 N a b c g d e f k (λa b c d e f=>K (.exit 2) (jd a b c d e f))) (λF a b c g d e f=>SP N a b c g d e f _) (by kernel_rfl)
def SR N a b c d e f g (K:KT J):=vL (vn a b c d e f g) (SQ N (jK l7 K) N a b c d e f g) (by kernel_rfl)
def SS N a b c g d e f (K:KT J):=vB 2 l7 K (cg.Z17 N a b c g d e f (λa b c d e f=>K .nrm (jd a b c d e f))) (SR N a b c g d e f _) (by kernel_rfl)
def ST N a b c d e f (K:KT J):=vQ (λk=>cg.Z16 N a b c d e f k) (SO N a b c d e f _) (eC λa b c g d e f=>SS N a b c g d e f K)
def SU N a b c d e f (K:KT J):=vB 1 l7 K (cg.Z14 N a b c d e f (λa b c d e f=>K .nrm (jd a b c d e f))) (ST N a b c d e f _) (by kernel_rfl)
def SW N a b c d e f (K:KT J):kY N 919 (jd a b c d e f) l7 K =
 cg.Z20 N a b c d e f (λa b c d e f=>K .nrm (jd a b c d e f)):=by kernel_rfl
def SX N a b c d e f (K:KT J):=vQ (λk=>cg.Z14 N a b c d e f k) (SU N a b c d e f _) (cC λa b c d e f=>SW N a b c d e f K)
def SY N a b c d e f (K:KT J):=vQ (λk=>cg.Z12 N a b c d e f k (λa b=>K (.exit 0) (pJ a b))) (SN N a b c d e f _) (cC λa b c d e f=>SX N a b c d e f K)
def SZ N (K:KT J):=iV K (cg.Z10L N (λa b=>K (.exit 0) (pJ a b))) (λa b c d e f k=>cg.Z11 N a b c d e f k (λa b=>K (.exit 0) (pJ a b))) (λF a b c d e f=>SY N a b c d e f _) (by kernel_rfl)
def S0 N a b c d e f (K:KT J):=vL (jd a b c d e f) (SZ N (jK As K) N a b c d e f) (by kernel_rfl)
def S2 N a b c d e f (K:KT J):=vB 0 As K (cg.Z9 N a b c d e f (λa b=>K .nrm (pJ a b))) (S0 N a b c d e f _) (by kernel_rfl)
def S3 N a b c d e (K:KT J):=vQ (λk=>cg.Z8 N a b c d e k) (SM N a b c d e _) (cC λa b f c d e=>S2 N a b f c d e K)
def S4 N a b (K:KT J):kY N 31 (pJ a b) SB K =
 cg.Z21 N a b (λc d=>K .ret (SG c d)):=by kernel_rfl
def S5 N a b c d e (K:KT J):=vQ (λk=>cg.Z7 N a b c d e k) (S3 N a b c d e _) (cX λa b=>S4 N a b K)
def S6 N a e b c d (K:KT J):=vQ (λk=>cg.Z5 N a e b c d k) (SL N a e b c d _) (bO λa f b c d=>S5 N a f b c d K)
def S7 N a b c d (K:KT J):=vQ (λk=>cg.Z3 N a b c d k) (SK N a b c d _) (bO λe a b c d=>S6 N e a b c d K)
def S8 N b a (K:KT J):=vQ (λk=>cg.Z1 N b a k) (SJ N b a _) (dn λa c d e=>S7 N a c d e K)
def S9(h:cg.Spec):av Tryz.prog 73 vm :=
 bu Tryz.func73 bq SA (λN X K=>S8 N X.1 X.2.1 K) (by kernel_rfl) λX hb hp=>by obtain⟨a,b,_⟩:=X;obtain⟨N,h⟩:=h a b hb.1 hp;exact⟨N,Eq.trans (by kernel_rfl) (h N (Nat.le_refl N))⟩
def GM:av Tryz.prog 73 vm:=S9 cg.ok
def GN:aW:=⟨[⟨.int .i64,false,false⟩],[⟨.int .i64,false,false⟩]⟩
def sE:aK:=⟨GN,none,λX=>((),((dP.g X.1),()))⟩
def GO:Gm:=bi
def Ta:aw Tryz.prog GO:=aw.nil
def Tb:ab:=⟨[],[],[],[],[]⟩
def Tc(a:Int):St:=be GN.ps (a,())
def Td(a:Int):St:=af [(2,xi a)] [] []
def Te:ab:=⟨[2],[],[],[],[]⟩
def Tf:Nat->Option ab:=az [(1000000,Te)]
abbrev Tg{J:Type}(N n:Nat)(U:St)(l:ab)(K:KT J):Option J:=an GO bm Tf N (a8 99 (bn Tryz.f106) n) .n U (ay (some l) K)
def Th N a (K:KT J):Tg N 1 (Tc a) Tb K =
 dP.Z0 N a (λb=>K .ret (Td b)):=by kernel_rfl
def Ti(h:dP.Spec):av Tryz.prog 106 sE :=
 bu Tryz.func106 bq Ta (λN X K=>Th N X.1 K) (by kernel_rfl) λX hb hp=>by obtain⟨a,_⟩:=X;obtain⟨N,h⟩:=h a;exact⟨N,Eq.trans (by kernel_rfl) (h N (Nat.le_refl N))⟩
def Au:av Tryz.prog 106 sE:=Ti dP.ok
def GP:aW:=⟨[⟨.int .i64,false,false⟩,⟨.int .i64,false,false⟩],[⟨.int .i64,false,false⟩]⟩
def Av:aK:=⟨GP,(some λX=>fp.P X.1 X.2.1),λX=>((),((fp.g X.1 X.2.1),()))⟩
def GQ:Gm:=bi
def Tj:aw Tryz.prog GQ:=aw.nil
def Tk:ab:=⟨[],[],[],[],[]⟩
def Tl(a b:Int):St:=be GP.ps (a,(b,()))
def vo(a b:Int):St:=af [(0,xi a),(1,xi b)] [] []
def GR:ab:=⟨[0,1],[],[],[],[]⟩
def sF(a:Int):St:=af [(0,xi a)] [] []
def Aw:ab:=⟨[0],[],[],[],[]⟩
def Tm(a:Int):St:=af [(4,xi a)] [] []
def Tn:ab:=⟨[4],[],[],[],[]⟩
def To:Nat->Option ab:=az [(0,Aw),(1000000,Tn)]
abbrev Ax{J:Type}(N n:Nat)(U:St)(l:ab)(K:KT J):Option J:=an GQ bm To N (a8 99 (bn Tryz.f107) n) .n U (ay (some l) K)
def Tq N a b (K:KT J):Ax N 2 (Tl a b) GR K =
 fp.Z1 N a b (λa b=>K .nrm (vo a b)):=by kernel_rfl
def Tr N a b (K:KT J):Ax N 17 (vo a b) GR K =
 fp.Z5 N a b (λa b=>K .nrm (vo a b)) (λa=>K (.exit 0) (sF a)):=by kernel_rfl
def Ts N (K:KT J):=uB K (fp.Z4L N (λa=>K (.exit 0) (sF a))) (λa b k=>fp.Z5 N a b k (λa=>K (.exit 0) (sF a))) (λF a b=>Tr N a b _) (by kernel_rfl)
def Tt N a b (K:KT J):=vL (vo a b) (Ts N (jK Aw K) N a b) (by kernel_rfl)
def Tu N a b (K:KT J):=vB 0 Aw K (fp.Z3 N a b (λa=>K .nrm (sF a))) (Tt N a b _) (by kernel_rfl)
def Tv N a (K:KT J):Ax N 7 (sF a) Tk K =
 fp.Z6 N a (λb=>K .ret (Tm b)):=by kernel_rfl
def Tw N a b (K:KT J):=vQ (λk=>fp.Z3 N a b k) (Tu N a b _) (funext λa=>Tv N a K)
def Tx N a b (K:KT J):=vQ (λk=>fp.Z1 N a b k) (Tq N a b _) (cX λa b=>Tw N a b K)
def Tz(h:fp.Spec):av Tryz.prog 107 Av :=
 bu Tryz.func107 bq Tj (λN X K=>Tx N X.1 X.2.1 K) (by kernel_rfl) λX hb hp=>by obtain⟨a,b,_⟩:=X;obtain⟨N,h⟩:=h a b hp;exact⟨N,Eq.trans (by kernel_rfl) (h N (Nat.le_refl N))⟩
def TA:av Tryz.prog 107 Av:=Tz fp.ok
def GS:aW:=⟨[⟨.pair (.int .i64) (.pair (.int .i64) (.sl 3 (.int .i64))),true,false⟩],[⟨.sl 3 (.int .i64),false,false⟩,⟨.bool,false,false⟩]⟩
def Ay:aK:=⟨GS,(some λX=>aV.P X.1),λX=>((),((aV.g X.1).1,((aV.g X.1).2,())))⟩
def GT:Gm:=aD (aD (aD (aD bi 73 vm) 105 jG) 106 sE) 107 Av
def TB:aw Tryz.prog GT:=((((aw.nil).add GM (by kernel_rfl)).add kW (by kernel_rfl)).add Au (by kernel_rfl)).add TA (by kernel_rfl)
def TC:ab:=⟨[],[],[],[],[]⟩
def TD(a:MT):St:=be GS.ps (a,())
def GU(a b:Int)(c:LI):St:=af [(1,xb 1)] [(1,(27,[yi a,yi b,.sn 3 tI c none]))] []
def TE:ab:=⟨[1],[1],[],[],[]⟩
def l8(a:LI)(b c:Int)(d:LI):St:=af [(1,xb 1),(4,xo 1000256)] [(1,(27,[yi b,yi c,.sn 3 tI d none]))] [(1000256,(⟨3,.int .i64,a,true,false⟩:ac))]
def vq:ab:=⟨[1,4],[1],[],[],[(⟨false,4,0⟩,1000256)]⟩
def gy(a:LI)(b c d:Int)(e:LI):St:=af [(1,xb 1),(4,xo 1000256),(5,xi b)] [(1,(27,[yi c,yi d,.sn 3 tI e none]))] [(1000256,(⟨3,.int .i64,a,true,false⟩:ac))]
def kZ:ab:=⟨[1,4,5],[1],[],[],[(⟨false,4,0⟩,1000256)]⟩
def k7(a b c:LI)(d e f:Int)(g:LI):St:=af [(1,xb 1),(4,xo 1000256),(5,xi d),(6,xo 1000384),(7,xo 1000448)] [(1,(27,[yi e,yi f,.sn 3 tI g none]))] [(1000256,(⟨3,.int .i64,a,true,false⟩:ac)),(1000384,(⟨3,.int .i64,b,true,false⟩:ac)),(1000448,(⟨3,.int .i64,c,true,false⟩:ac))]
def sG:ab:=⟨[1,4,5,6,7],[1],[],[],[(⟨false,4,0⟩,1000256),(⟨false,6,0⟩,1000384),(⟨false,7,0⟩,1000448)]⟩
def vr(a b c:LI)(d e f g:Int)(h:LI):St:=af [(1,xb 1),(4,xo 1000256),(5,xi d),(6,xo 1000384),(7,xo 1000448),(8,xi e)] [(1,(27,[yi f,yi g,.sn 3 tI h none]))] [(1000256,(⟨3,.int .i64,a,true,false⟩:ac)),(1000384,(⟨3,.int .i64,b,true,false⟩:ac)),(1000448,(⟨3,.int .i64,c,true,false⟩:ac))]
def GV:ab:=⟨[1,4,5,6,7,8],[1],[],[],[(⟨false,4,0⟩,1000256),(⟨false,6,0⟩,1000384),(⟨false,7,0⟩,1000448)]⟩
def GW(a b c:LI)(d e f g:Int)(h:LI):St:=af [(1,xb 1),(4,xo 1000256),(5,xi d),(6,xo 1000384),(7,xo 1000448),(9,xi e)] [(1,(27,[yi f,yi g,.sn 3 tI h none]))] [(1000256,(⟨3,.int .i64,a,true,false⟩:ac)),(1000384,(⟨3,.int .i64,b,true,false⟩:ac)),(1000448,(⟨3,.int .i64,c,true,false⟩:ac))]
def TF:ab:=⟨[1,4,5,6,7,9],[1],[],[],[(⟨false,4,0⟩,1000256),(⟨false,6,0⟩,1000384),(⟨false,7,0⟩,1000448)]⟩
def vt(a b c:LI)(d e f g h:Int)(i:LI):St:=af [(1,xb 1),(4,xo 1000256),(5,xi d),(6,xo 1000384),(7,xo 1000448),(9,xi e),(10,xi f)] [(1,(27,[yi g,yi h,.sn 3 tI i none]))] [(1000256,(⟨3,.int .i64,a,true,false⟩:ac)),(1000384,(⟨3,.int .i64,b,true,false⟩:ac)),(1000448,(⟨3,.int .i64,c,true,false⟩:ac))]
def GX:ab:=⟨[1,4,5,6,7,9,10],[1],[],[],[(⟨false,4,0⟩,1000256),(⟨false,6,0⟩,1000384),(⟨false,7,0⟩,1000448)]⟩
def sH(a b:LI)(c d e f:Int)(g:LI):St:=af [(1,xb 1),(4,xo 1000256),(5,xi c),(6,xo 1000384),(9,xi d)] [(1,(27,[yi e,yi f,.sn 3 tI g none]))] [(1000256,(⟨3,.int .i64,a,true,false⟩:ac)),(1000384,(⟨3,.int .i64,b,true,false⟩:ac))]
def Az:ab:=⟨[1,4,5,6,9],[1],[],[],[(⟨false,4,0⟩,1000256),(⟨false,6,0⟩,1000384)]⟩
def vu(a b:LI)(c d e f g:Int)(h:LI):St:=af [(1,xb 1),(4,xo 1000256),(5,xi c),(6,xo 1000384),(9,xi d),(11,xi e)] [(1,(27,[yi f,yi g,.sn 3 tI h none]))] [(1000256,(⟨3,.int .i64,a,true,false⟩:ac)),(1000384,(⟨3,.int .i64,b,true,false⟩:ac))]
def GY:ab:=⟨[1,4,5,6,9,11],[1],[],[],[(⟨false,4,0⟩,1000256),(⟨false,6,0⟩,1000384)]⟩
def jf(a:LI)(b c d:Int)(e:LI):St:=af [(1,xb 1),(4,xo 1000256),(12,xi b)] [(1,(27,[yi c,yi d,.sn 3 tI e none]))] [(1000256,(⟨3,.int .i64,a,true,false⟩:ac))]
def l9:ab:=⟨[1,4,12],[1],[],[],[(⟨false,4,0⟩,1000256)]⟩
def vv(a:LI)(b c d e:Int)(f:LI):St:=af [(1,xb 1),(4,xo 1000256),(12,xi b),(13,xi c)] [(1,(27,[yi d,yi e,.sn 3 tI f none]))] [(1000256,(⟨3,.int .i64,a,true,false⟩:ac))]
def GZ:ab:=⟨[1,4,12,13],[1],[],[],[(⟨false,4,0⟩,1000256)]⟩
def pL(a:LI):St:=af [(4,xo 1000256)] [] [(1000256,(⟨3,.int .i64,a,true,false⟩:ac))]
def AA:ab:=⟨[4],[],[],[],[(⟨false,4,0⟩,1000256)]⟩
def jH(a:LI)(b:Bool):St:=af [(2,xo 1000128),(3,xB b)] [] [(1000128,(⟨3,.int .i64,a,true,false⟩:ac))]
def TG:ab:=⟨[2,3],[],[⟨⟨false,2,0⟩,30000000,3,.int .i64,true⟩],[],[(⟨false,2,0⟩,1000128)]⟩
def TH:Nat->Option ab:=az [(2,sG),(4,Az),(6,kZ),(1,kZ),(0,vq),(10,l9),(9,l9),(8,AA),(1000000,TG)]
abbrev eJ{J:Type}(N n:Nat)(U:St)(l:ab)(K:KT J):Option J:=an GT bm TH N (a8 99 (bn Tryz.f66) n) .n U (ay (some l) K)
def TJ N a (K:KT J):eJ N 2 (TD a) TE K =
 aV.Z1 N a (λb c d=>K .nrm (GU b c d)):=by kernel_rfl
def TK N a b c (K:KT J):eJ N 5 (GU a b c) vq K =
 aV.Z3 N a b c (λd a b c=>K .nrm (l8 d a b c)):=by kernel_rfl
def TL N a b c d (K:KT J):eJ N 19 (l8 a b c d) kZ K =
 aV.Z6 N a b c d (λa e b c d=>K .nrm (gy a e b c d)):=by kernel_rfl
def TM N a e b c d (K:KT J):eJ N 139 (gy a e b c d) kZ K =
 aV.Z10 N a e b c d (λa e b c d=>K .nrm (gy a e b c d)) (λa b c d=>K (.exit 0) (l8 a b c d)):=by kernel_rfl
def TN N a b c d e (K:KT J):eJ N 1099 (gy a b c d e) kZ K =
 aV.Z14 N a b c d e (λa b c d e=>K .nrm (gy a b c d e)) (λa b c d e=>K (.exit 1) (gy a b c d e)):=by kernel_rfl
def TO N a b c d e (K:KT J):eJ N 2635 (gy a b c d e) sG K =
 aV.Z16 N a b c d e (λa f g b c d e=>K .nrm (k7 a f g b c d e)):=by kernel_rfl
def TP N a b c d e f g (K:KT J):eJ N 5707 (k7 a b c d e f g) sG K =
 aV.Z18 N a b c d e f g (λa b c d e f g=>K .nrm (k7 a b c d e f g)):=by kernel_rfl
def TQ N a b c d e f g (K:KT J):eJ N 20043 (k7 a b c d e f g) GV K =
 aV.Z21 N a b c d e f g (λa b c d h e f g=>K .nrm (vr a b c d h e f g)):=by kernel_rfl
def TR N a b c d h e f g (K:KT J):eJ N 77387 (vr a b c d h e f g) GV K =
 aV.Z24 N a b c d h e f g (λa b c d h e f g=>K .nrm (vr a b c d h e f g)) (λa b c d e f g=>K (.exit 2) (k7 a b c d e f g)):=by kernel_rfl
def TS N (K:KT J):=lO K (aV.Z23L N (λa b c d e f g=>K (.exit 2) (k7 a b c d e f g))) (λa b c d h e f g k=>aV.Z24 N a b c d h e f g k (λa b c d e f g=>K (.exit 2) (k7 a b c d e f g))) (λF a b c d h e f g=>TR N a b c d h e f g _) (by kernel_rfl)
def TT N a b c d e f g h (K:KT J):=vL (vr a b c d e f g h) (TS N (jK sG K) N a b c d e f g h) (by kernel_rfl)
def TU N a b c d h e f g (K:KT J):=vB 2 sG K (aV.Z22 N a b c d h e f g (λa b c d e f g=>K .nrm (k7 a b c d e f g))) (TT N a b c d h e f g _) (by kernel_rfl)
def TV N a b c d e f g (K:KT J):=vQ (λk=>aV.Z21 N a b c d e f g k) (TQ N a b c d e f g _) (eX λa b c d h e f g=>TU N a b c d h e f g K)
def TW N a b c d e f g (K:KT J):eJ N 24139 (k7 a b c d e f g) TF K =
 aV.Z26 N a b c d e f g (λa b c d h e f g=>K .nrm (GW a b c d h e f g)):=by kernel_rfl
def TX N a b c d e f g h (K:KT J):eJ N 81483 (GW a b c d e f g h) GX K =
 aV.Z29 N a b c d e f g h (λa b c d e i f g h=>K .nrm (vt a b c d e i f g h)):=by kernel_rfl
def TY N a b h c d i e f g (K:KT J):eJ N 310859 (vt a b h c d i e f g) GX K =
 aV.Z32 N a b h c d i e f g (λa b h c d i e f g=>K .nrm (vt a b h c d i e f g)) (λa b c d e f g=>K (.exit 4) (sH a b c d e f g)):=by kernel_rfl
def TZ N (K:KT J):=oY K (aV.Z31L N (λa b c d e f g=>K (.exit 4) (sH a b c d e f g))) (λa b h c d i e f g k=>aV.Z32 N a b h c d i e f g k (λa b c d e f g=>K (.exit 4) (sH a b c d e f g))) (λF a b h c d i e f g=>TY N a b h c d i e f g _) (by kernel_rfl)
def T0 N a b c d e f g h i (K:KT J):=vL (vt a b c d e f g h i) (TZ N (jK Az K) N a b c d e f g h i) (by kernel_rfl)
def T1 N a b h c d i e f g (K:KT J):=vB 4 Az K (aV.Z30 N a b h c d i e f g (λa b c d e f g=>K .nrm (sH a b c d e f g))) (T0 N a b h c d i e f g _) (by kernel_rfl)
def T4 N a b c d e f g h (K:KT J):=vQ (λk=>aV.Z29 N a b c d e f g h k) (TX N a b c d e f g h _) (c6 λa b c d e i f g h=>T1 N a b c d e i f g h K)
def T5 N a b c d e f g (K:KT J):eJ N 97867 (sH a b c d e f g) GY K =
 aV.Z34 N a b c d e f g (λa b c d h e f g=>K .nrm (vu a b c d h e f g)):=by kernel_rfl
def T6 N a f b g h c d e (K:KT J):eJ N 327243 (vu a f b g h c d e) GY K =
 aV.Z37 N a f b g h c d e (λa f b g h c d e=>K .nrm (vu a f b g h c d e)) (λa b c d e=>K (.exit 6) (gy a b c d e)):=by kernel_rfl
def T7 N (K:KT J):=lO K (aV.Z36L N (λa b c d e=>K (.exit 6) (gy a b c d e))) (λa f b g h c d e k=>aV.Z37 N a f b g h c d e k (λa b c d e=>K (.exit 6) (gy a b c d e))) (λF a f b g h c d e=>T6 N a f b g h c d e _) (by kernel_rfl)
def T8 N a b c d e f g h (K:KT J):=vL (vu a b c d e f g h) (T7 N (jK kZ K) N a b c d e f g h) (by kernel_rfl)
def T9 N a f b g h c d e (K:KT J):=vB 6 kZ K (aV.Z35 N a f b g h c d e (λa b c d e=>K .nrm (gy a b c d e))) (T8 N a f b g h c d e _) (by kernel_rfl)
def Ua N a b c d e f g (K:KT J):=vQ (λk=>aV.Z34 N a b c d e f g k) (T5 N a b c d e f g _) (eX λa b c d h e f g=>T9 N a b c d h e f g K)
def Ub N a b h c d e f g (K:KT J):=vQ (λk=>aV.Z28 N a b h c d e f g k) (T4 N a b h c d e f g _) (eC λa b c d e f g=>Ua N a b c d e f g K)
def Uc N a b c d e f g (K:KT J):=vQ (λk=>aV.Z26 N a b c d e f g k) (TW N a b c d e f g _) (eX λa b c d h e f g=>Ub N a b c d h e f g K)
def Ud N a b c d e f g (K:KT J):=vQ (λk=>aV.Z20 N a b c d e f g k) (TV N a b c d e f g _) (eC λa b c d e f g=>Uc N a b c d e f g K)
def Ue N a b c d e f g (K:KT J):=vQ (λk=>aV.Z18 N a b c d e f g k) (TP N a b c d e f g _) (eC λa b c d e f g=>Ud N a b c d e f g K)
def Uf N a b c d e (K:KT J):=vQ (λk=>aV.Z16 N a b c d e k) (TO N a b c d e _) (eC λa f g b c d e=>Ue N a f g b c d e K)
def Ug N a b c d e (K:KT J):=vQ (λk=>aV.Z14 N a b c d e k (λa b c d e=>K (.exit 1) (gy a b c d e))) (TN N a b c d e _) (bO λa b c d e=>Uf N a b c d e K)
def Uh N a b c d e (K:KT J):=vB 1 kZ K (aV.Z12 N a b c d e (λa b c d e=>K .nrm (gy a b c d e))) (Ug N a b c d e _) (by kernel_rfl)
def Ui N a b c d e (K:KT J):eJ N 459 (gy a b c d e) kZ K =
 aV.Z38 N a b c d e (λa b c d e=>K .nrm (gy a b c d e)):=by kernel_rfl
def Uj N a b c d e (K:KT J):=vQ (λk=>aV.Z12 N a b c d e k) (Uh N a b c d e _) (bO λa b c d e=>Ui N a b c d e K)
def Uk N a e b c d (K:KT J):=vQ (λk=>aV.Z10 N a e b c d k (λa b c d=>K (.exit 0) (l8 a b c d))) (TM N a e b c d _) (bO λa e b c d=>Uj N a e b c d K)
def Ul N (K:KT J):=j8 K (aV.Z8L N (λa b c d=>K (.exit 0) (l8 a b c d))) (λa e b c d k=>aV.Z9 N a e b c d k (λa b c d=>K (.exit 0) (l8 a b c d))) (λF a e b c d=>Uk N a e b c d _) (by kernel_rfl)
def Um N a b c d e (K:KT J):=vL (gy a b c d e) (Ul N (jK vq K) N a b c d e) (by kernel_rfl)
def Un N a e b c d (K:KT J):=vB 0 vq K (aV.Z7 N a e b c d (λa b c d=>K .nrm (l8 a b c d))) (Um N a e b c d _) (by kernel_rfl)
def Uo N a b c d (K:KT J):=vQ (λk=>aV.Z6 N a b c d k) (TL N a b c d _) (bO λa e b c d=>Un N a e b c d K)
def Up N a b c d (K:KT J):eJ N 39 (l8 a b c d) l9 K =
 aV.Z41 N a b c d (λa e b c d=>K .nrm (jf a e b c d)):=by kernel_rfl
def Uq N a b c d e (K:KT J):eJ N 279 (jf a b c d e) l9 K =
 aV.Z45 N a b c d e (λa b c d e=>K .nrm (jf a b c d e)) (λa=>K (.exit 8) (pL a)):=by kernel_rfl
def Ur N a b c d e (K:KT J):eJ N 2199 (jf a b c d e) GZ K =
 aV.Z49 N a b c d e (λa b f c d e=>K .nrm (vv a b f c d e)):=by kernel_rfl
def Us N a b f c d e (K:KT J):eJ N 9367 (vv a b f c d e) GZ K =
 aV.Z52 N a b f c d e (λa b f c d e=>K .nrm (vv a b f c d e)) (λa b c d e=>K (.exit 10) (jf a b c d e)) (λg h=>K .ret (jH g h)):=by kernel_rfl
def Ut N (K:KT J):=iV K (aV.Z51L N (λa b c d e=>K (.exit 10) (jf a b c d e)) (λf g=>K .ret (jH f g))) (λa b h c d e k=>aV.Z52 N a b h c d e k (λa b c d e=>K (.exit 10) (jf a b c d e)) (λf g=>K .ret (jH f g))) (λF a b h c d e=>Us N a b h c d e _) (by kernel_rfl)
def Uu N a b c d e f (K:KT J):=vL (vv a b c d e f) (Ut N (jK l9 K) N a b c d e f) (by kernel_rfl)
def Uv N a b f c d e (K:KT J):=vB 10 l9 K (aV.Z50 N a b f c d e (λa b c d e=>K .nrm (jf a b c d e)) (λg h=>K .ret (jH g h))) (Uu N a b f c d e _) (by kernel_rfl)
def Uw N a b c d e (K:KT J):=vQ (λk=>aV.Z49 N a b c d e k) (Ur N a b c d e _) (cC λa b f c d e=>Uv N a b f c d e K)
def Ux N a b c d e (K:KT J):=vB 9 l9 K (aV.Z47 N a b c d e (λa b c d e=>K .nrm (jf a b c d e)) (λf g=>K .ret (jH f g))) (Uw N a b c d e _) (by kernel_rfl)
def Uy N a b c d e (K:KT J):eJ N 919 (jf a b c d e) l9 K =
 aV.Z53 N a b c d e (λa b c d e=>K .nrm (jf a b c d e)):=by kernel_rfl
def Uz N a b c d e (K:KT J):=vQ (λk=>aV.Z47 N a b c d e k (λf g=>K .ret (jH f g))) (Ux N a b c d e _) (bO λa b c d e=>Uy N a b c d e K)
def UA N a b c d e (K:KT J):=vQ (λk=>aV.Z45 N a b c d e k (λa=>K (.exit 8) (pL a))) (Uq N a b c d e _) (bO λa b c d e=>Uz N a b c d e K)
def UB N (K:KT J):=j8 K (aV.Z43L N (λa=>K (.exit 8) (pL a)) (λb c=>K .ret (jH b c))) (λa d e f g k=>aV.Z44 N a d e f g k (λa=>K (.exit 8) (pL a)) (λb c=>K .ret (jH b c))) (λF a d e f g=>UA N a d e f g _) (by kernel_rfl)
def UC N a b c d e (K:KT J):=vL (jf a b c d e) (UB N (jK AA K) N a b c d e) (by kernel_rfl)
def UD N a b c d e (K:KT J):=vB 8 AA K (aV.Z42 N a b c d e (λa=>K .nrm (pL a)) (λf g=>K .ret (jH f g))) (UC N a b c d e _) (by kernel_rfl)
def UE N a b c d (K:KT J):=vQ (λk=>aV.Z41 N a b c d k) (Up N a b c d _) (bO λa e b c d=>UD N a e b c d K)
def UF N a (K:KT J):eJ N 31 (pL a) TC K =
 aV.Z54 N a (λb c=>K .ret (jH b c)):=by kernel_rfl
def UG N a b c d (K:KT J):=vQ (λk=>aV.Z40 N a b c d k (λe f=>K .ret (jH e f))) (UE N a b c d _) (funext λa=>UF N a K)
def UH N a b c d (K:KT J):=vQ (λk=>aV.Z5 N a b c d k) (Uo N a b c d _) (dn λa b c d=>UG N a b c d K)
def UI N a b c (K:KT J):=vQ (λk=>aV.Z3 N a b c k) (TK N a b c _) (dn λd a b c=>UH N d a b c K)
def UJ N a (K:KT J):=vQ (λk=>aV.Z1 N a k) (TJ N a _) (bZ λb c d=>UI N b c d K)
def UK(h:aV.Spec):av Tryz.prog 66 Ay :=
 bu Tryz.func66 bq TB (λN X K=>UJ N X.1 K) (by kernel_rfl) λX hb hp=>by obtain⟨a,_⟩:=X;obtain⟨N,h⟩:=h a hb.1 hp;exact⟨N,Eq.trans (by kernel_rfl) (h N (Nat.le_refl N))⟩
def UL:av Tryz.prog 66 Ay:=UK aV.ok
def G0:aW:=⟨[⟨.pair (.int .i64) (.pair (.int .i64) (.sl 3 (.int .i64))),true,false⟩],[⟨.bool,false,false⟩]⟩
def vw:aK:=⟨G0,none,λX=>((),((jQ.g X.1),()))⟩
def G1:Gm:=aD (aD bi 65 vg) 66 Ay
def UM:aw Tryz.prog G1:=((aw.nil).add GB (by kernel_rfl)).add UL (by kernel_rfl)
def UN:ab:=⟨[],[],[],[],[]⟩
def UO(a:MT):St:=be G0.ps (a,())
def UP(a:Bool):St:=af [(2,xB a)] [] []
def UQ:ab:=⟨[2],[],[],[],[]⟩
def UR:Nat->Option ab:=az [(1000000,UQ)]
abbrev US{J:Type}(N n:Nat)(U:St)(l:ab)(K:KT J):Option J:=an G1 bm UR N (a8 99 (bn Tryz.f25) n) .n U (ay (some l) K)
def UT N a (K:KT J):US N 1 (UO a) UN K =
 jQ.Z0 N a (λb=>K .ret (UP b)):=by kernel_rfl
def UU(h:jQ.Spec):av Tryz.prog 25 vw :=
 bu Tryz.func25 bq UM (λN X K=>UT N X.1 K) (by kernel_rfl) λX hb hp=>by obtain⟨a,_⟩:=X;obtain⟨N,h⟩:=h a hb.1;exact⟨N,Eq.trans (by kernel_rfl) (h N (Nat.le_refl N))⟩
def G3:av Tryz.prog 25 vw:=UU jQ.ok
def G4:aW:=⟨[⟨.sl 3 (.int .i64),false,false⟩],[⟨.sl 3 (.int .i64),false,false⟩]⟩
def pM:aK:=⟨G4,(some λX=>dM.P X.1),λX=>((),((dM.g X.1),()))⟩
def G5:Gm:=bi
def UV:aw Tryz.prog G5:=aw.nil
def UW:ab:=⟨[],[],[],[],[]⟩
def UX(a:LI):St:=be G4.ps (a,())
def UY(a:LI):St:=af [(2,xo 1000128)] [] [(1000128,(⟨3,.int .i64,a,true,false⟩:ac))]
def UZ:ab:=⟨[2],[],[],[],[(⟨false,2,0⟩,1000128)]⟩
def U0:Nat->Option ab:=az [(1000000,UZ)]
abbrev U1{J:Type}(N n:Nat)(U:St)(l:ab)(K:KT J):Option J:=an G5 bm U0 N (a8 99 (bn Tryz.f46) n) .n U (ay (some l) K)
def U2 N a (K:KT J):U1 N 1 (UX a) UW K =
 dM.Z0 N a (λb=>K .ret (UY b)):=by kernel_rfl
def U3(h:dM.Spec):av Tryz.prog 46 pM :=
 bu Tryz.func46 bq UV (λN X K=>U2 N X.1 K) (by kernel_rfl) λX hb hp=>by obtain⟨a,_⟩:=X;obtain⟨N,h⟩:=h a hb.1 hp;exact⟨N,Eq.trans (by kernel_rfl) (h N (Nat.le_refl N))⟩
def vz:av Tryz.prog 46 pM:=U3 dM.ok
def G6:aW:=⟨[⟨.pair (.int .i64) (.pair (.int .i64) (.sl 3 (.int .i64))),true,false⟩],[⟨.pair (.int .i64) (.pair (.int .i64) (.sl 3 (.int .i64))),true,false⟩]⟩
def AB:aK:=⟨G6,none,λX=>((),((kz.g X.1),()))⟩
def G7:Gm:=aD (aD bi 25 vw) 46 pM
def U4:aw Tryz.prog G7:=((aw.nil).add G3 (by kernel_rfl)).add vz (by kernel_rfl)
def U5:ab:=⟨[],[],[],[],[]⟩
def U6(a:MT):St:=be G6.ps (a,())
def U7(a:LI)(b c:Int):St:=af [(2,xb 2)] [(2,(27,[yi b,yi c,.own 20000130]))] [(20000130,(⟨3,.int .i64,a,true,false⟩:ac))]
def U8:ab:=⟨[2],[2],[⟨⟨true,2,2⟩,30000000,3,.int .i64,true⟩],[],[(⟨true,2,2⟩,20000130)]⟩
def U9:Nat->Option ab:=az [(1000000,U8)]
abbrev Va{J:Type}(N n:Nat)(U:St)(l:ab)(K:KT J):Option J:=an G7 bm U9 N (a8 99 (bn Tryz.f84) n) .n U (ay (some l) K)
def Vb N a (K:KT J):Va N 1 (U6 a) U5 K =
 kz.Z0 N a (λb c d=>K .ret (U7 b c d)):=by kernel_rfl
def Vc(h:kz.Spec):av Tryz.prog 84 AB :=
 bu Tryz.func84 bq U4 (λN X K=>Vb N X.1 K) (by kernel_rfl) λX hb hp=>by obtain⟨a,_⟩:=X;obtain⟨N,h⟩:=h a hb.1;exact⟨N,Eq.trans (by kernel_rfl) (h N (Nat.le_refl N))⟩
def Vd:av Tryz.prog 84 AB:=Vc kz.ok
def G8:aW:=⟨[⟨.pair (.int .i64) (.pair (.int .i64) (.sl 3 (.int .i64))),true,false⟩],[⟨.pair (.int .i64) (.pair (.int .i64) (.sl 3 (.int .i64))),true,false⟩]⟩
def sI:aK:=⟨G8,(some λX=>d9.P X.1),λX=>((),((d9.g X.1),()))⟩
def G9:Gm:=aD bi 46 pM
def Ve:aw Tryz.prog G9:=(aw.nil).add vz (by kernel_rfl)
def Vf:ab:=⟨[],[],[],[],[]⟩
def Vg(a:MT):St:=be G8.ps (a,())
def Vh(a:LI)(b c:Int):St:=af [(2,xb 2)] [(2,(27,[yi b,yi c,.own 20000130]))] [(20000130,(⟨3,.int .i64,a,true,false⟩:ac))]
def Vi:ab:=⟨[2],[2],[],[],[(⟨true,2,2⟩,20000130)]⟩
def Vj:Nat->Option ab:=az [(1000000,Vi)]
abbrev Vk{J:Type}(N n:Nat)(U:St)(l:ab)(K:KT J):Option J:=an G9 bm Vj N (a8 99 (bn Tryz.f70) n) .n U (ay (some l) K)
def Vl N a (K:KT J):Vk N 1 (Vg a) Vf K =
 d9.Z0 N a (λb c d=>K .ret (Vh b c d)):=by kernel_rfl
def Vm(h:d9.Spec):av Tryz.prog 70 sI :=
 bu Tryz.func70 bq Ve (λN X K=>Vl N X.1 K) (by kernel_rfl) λX hb hp=>by obtain⟨a,_⟩:=X;obtain⟨N,h⟩:=h a hb.1 hp;exact⟨N,Eq.trans (by kernel_rfl) (h N (Nat.le_refl N))⟩
def AC:av Tryz.prog 70 sI:=Vm d9.ok
def AD:Rf:=none
def AE:List PT:=[⟨.sl 3 (.int .i64),false,true⟩,⟨.int .i64,false,false⟩,⟨.sl 22 (.sl 3 (.int .i64)),false,true⟩]
def Ha:List PT:=[⟨.sl 22 (.sl 3 (.int .i64)),false,false⟩]
def Hb(m:Nat):ik:=⟨AD,AE,Ha,(some (gG (λX=>dc.mu X.2.1 X.2.2.1 X.2.2.2.1) (λX=>dc.P X.2.1 X.2.2.1 X.2.2.2.1) m)),λX=>((),((dc.g X.2.1 X.2.2.1 X.2.2.2.1),()))⟩
def AF:ik:=⟨AD,AE,Ha,(some λX=>dc.P X.2.1 X.2.2.1 X.2.2.2.1),λX=>((),((dc.g X.2.1 X.2.2.1 X.2.2.2.1),()))⟩
def Hc(m:Nat):Gm:=addM (aD (aD bi 46 pM) 72 sC) 119 (Hb m)
def Vn(m:Nat)(hself:fA Tryz.prog 119 (Hb m)):aw Tryz.prog (Hc m):=(((aw.nil).add vz (by kernel_rfl)).add Ar (by kernel_rfl)).addM hself (by kernel_rfl)
def Vo:ab:=⟨[],[],[],[],[]⟩
def Vp(a:LI)(b:Int)(c:LL):St:=fD AD AE ((),(a,(b,(c,()))))
def vA(a:LI)(b:LL)(c:Int):St:=af [(0,xo 1000000),(1,xi c),(2,xo 1000128)] [] [(1000000,(⟨3,.int .i64,a,true,false⟩:ac)),(1000128,(⟨22,.sl 3 tI,b,true,false⟩:ac))]
def He:ab:=⟨[0,1,2],[],[],[],[(⟨false,0,0⟩,1000000),(⟨false,2,0⟩,1000128)]⟩
def vC(a:LI)(b:LL)(c d:Int):St:=af [(0,xo 1000000),(1,xi c),(2,xo 1000128),(7,xi d)] [] [(1000000,(⟨3,.int .i64,a,true,false⟩:ac)),(1000128,(⟨22,.sl 3 tI,b,true,false⟩:ac))]
def Hf:ab:=⟨[0,1,2,7],[],[],[],[(⟨false,0,0⟩,1000000),(⟨false,2,0⟩,1000128)]⟩
def sJ(a:LL):St:=af [(2,xo 1000128)] [] [(1000128,(⟨22,.sl 3 tI,a,true,false⟩:ac))]
def AG:ab:=⟨[2],[],[],[],[(⟨false,2,0⟩,1000128)]⟩
def AH(a:LL):St:=af [(6,xo 1000384)] [] [(1000384,(⟨22,.sl 3 tI,a,true,false⟩:ac))]
def Vq:ab:=⟨[6],[],[],[],[(⟨false,6,0⟩,1000384)]⟩
def Vr:Nat->Option ab:=az [(0,AG),(1000000,Vq)]
abbrev sK{J:Type}(N m n:Nat)(U:St)(l:ab)(K:KT J):Option J:=an (Hc m) bm Vr N (a8 99 (bn Tryz.f119) n) .n U (ay (some l) K)
def Vs N m a b c (K:KT J):sK N m 2 (Vp a b c) He K =
 dc.Z1 N m a b c (λa c b=>K .nrm (vA a c b)):=by kernel_rfl
def Vt N m a b c (K:KT J):sK N m 5 (vA a b c) He K =
 dc.Z3 N m a b c (λa b c=>K .nrm (vA a b c)) (λd=>K .ret (AH d)):=by kernel_rfl
def Vu N m a b c (K:KT J):sK N m 19 (vA a b c) Hf K =
 dc.Z6 N m a b c (λa b c d=>K .nrm (vC a b c d)):=by kernel_rfl
def Vv N m b a c d (K:KT J):sK N m 75 (vC b a c d) Hf K =
 dc.Z9 N m b a c d (λb a c d=>K .nrm (vC b a c d)) (λa=>K (.exit 0) (sJ a)):=by kernel_rfl
def Vw N m (K:KT J):=nA K (dc.Z8L N m (λa=>K (.exit 0) (sJ a))) (λb a c d k=>dc.Z9 N m b a c d k (λa=>K (.exit 0) (sJ a))) (λF b a c d=>Vv N m b a c d _) (by kernel_rfl)
def Vx N m a b c d (K:KT J):=vL (vC a b c d) (Vw N m (jK AG K) N a b c d) (by kernel_rfl)
def Vy N m b a c d (K:KT J):=vB 0 AG K (dc.Z7 N m b a c d (λa=>K .nrm (sJ a))) (Vx N m b a c d _) (by kernel_rfl)
def Vz N m a b c (K:KT J):=vQ (λk=>dc.Z6 N m a b c k) (Vu N m a b c _) (dn λa b c d=>Vy N m a b c d K)
def VA N m a (K:KT J):sK N m 15 (sJ a) Vo K =
 dc.Z10 N m a (λb=>K .ret (AH b)):=by kernel_rfl
def VB N m b a c (K:KT J):=vQ (λk=>dc.Z5 N m b a c k) (Vz N m b a c _) (funext λa=>VA N m a K)
def VC N m a b c (K:KT J):=vQ (λk=>dc.Z3 N m a b c k (λd=>K .ret (AH d))) (Vt N m a b c _) (bZ λa b c=>VB N m a b c K)
def VD N m a b c (K:KT J):=vQ (λk=>dc.Z1 N m a b c k) (Vs N m a b c _) (bZ λa c b=>VC N m a c b K)
def VE(h:dc.Spec):fA Tryz.prog 119 AF :=
 fA.rec (μ:=λX=>dc.mu X.2.1 X.2.2.1 X.2.2.2.1) (λm hself=>NZ Tryz.func119 bq (Vn m hself) (λN X K=>VD N m X.2.1 X.2.2.1 X.2.2.2.1 K) (by kernel_rfl) λX hb1 hb2 hp=>by obtain⟨u,a,b,c,_⟩:=X;obtain⟨N,h⟩:=h m a b c hb2.1 hb2.2.2.1 hp;exact⟨N,Eq.trans (by kernel_rfl) (h N (Nat.le_refl N))⟩)
def VF:fA Tryz.prog 119 AF:=VE dc.ok
def Hg:aW:=⟨[⟨.pair (.int .i64) (.pair (.int .i64) (.sl 3 (.int .i64))),true,false⟩,⟨.sl 3 (.int .i64),false,false⟩],[⟨.pair (.int .i64) (.pair (.int .i64) (.sl 3 (.int .i64))),true,false⟩]⟩
def AI:aK:=⟨Hg,(some λX=>ca.P X.1 X.2.1),λX=>((),((ca.g X.1 X.2.1),()))⟩
def Hh:Gm:=aD (aD bi 70 sI) 105 jG
def VG:aw Tryz.prog Hh:=((aw.nil).add AC (by kernel_rfl)).add kW (by kernel_rfl)
def VH:ab:=⟨[],[],[],[],[]⟩
def VI(a:MT)(b:LI):St:=be Hg.ps (a,(b,()))
def Hi(a:LI)(b d:Int)(e:LI)(f g:Int):St:=af [(1,.c (.sn 3 tI a none)),(2,xb 2),(4,xb 4)] [(2,(27,[yi b,yi d,.sn 3 tI e none])),(4,(27,[yi f,yi g,.nil]))] []
def VJ:ab:=⟨[1,2,4],[2,4],[],[],[]⟩
def Hj(a b:LI)(d e:Int)(f:LI)(g h i j:Int):St:=af [(1,.c (.sn 3 tI b none)),(2,xb 2),(4,xb 4),(5,xb 5)] [(2,(27,[yi d,yi e,.sn 3 tI f none])),(4,(27,[yi g,yi h,.nil])),(5,(27,[yi i,yi j,.own 20000322]))] [(20000322,(⟨3,.int .i64,a,true,false⟩:ac))]
def VK:ab:=⟨[1,2,4,5],[2,4,5],[],[],[(⟨true,5,2⟩,20000322)]⟩
def jg(a b:LI)(d e f:Int)(g:LI)(h i j l:Int):St:=af [(1,.c (.sn 3 tI b none)),(2,xb 2),(4,xb 4),(5,xb 5),(6,xi d)] [(2,(27,[yi e,yi f,.sn 3 tI g none])),(4,(27,[yi h,yi i,.nil])),(5,(27,[yi j,yi l,.own 20000322]))] [(20000322,(⟨3,.int .i64,a,true,false⟩:ac))]
def ma:ab:=⟨[1,2,4,5,6],[2,4,5],[],[],[(⟨true,5,2⟩,20000322)]⟩
def vD(a b:LI)(d e f g:Int)(h:LI)(i j l m:Int):St:=af [(1,.c (.sn 3 tI b none)),(2,xb 2),(4,xb 4),(5,xb 5),(6,xi d),(7,xi e)] [(2,(27,[yi f,yi g,.sn 3 tI h none])),(4,(27,[yi i,yi j,.nil])),(5,(27,[yi l,yi m,.own 20000322]))] [(20000322,(⟨3,.int .i64,a,true,false⟩:ac))]
def Hl:ab:=⟨[1,2,4,5,6,7],[2,4,5],[],[],[(⟨true,5,2⟩,20000322)]⟩
def vE(a b:LI)(d e f g h:Int)(i:LI)(j l m o:Int):St:=af [(1,.c (.sn 3 tI b none)),(2,xb 2),(4,xb 4),(5,xb 5),(6,xi d),(7,xi e),(8,xi f)] [(2,(27,[yi g,yi h,.sn 3 tI i none])),(4,(27,[yi j,yi l,.nil])),(5,(27,[yi m,yi o,.own 20000322]))] [(20000322,(⟨3,.int .i64,a,true,false⟩:ac))]
def Hm:ab:=⟨[1,2,4,5,6,7,8],[2,4,5],[],[],[(⟨true,5,2⟩,20000322)]⟩
def pN(a:LI)(b c d e:Int):St:=af [(4,xb 4),(5,xb 5)] [(4,(27,[yi b,yi c,.nil])),(5,(27,[yi d,yi e,.own 20000322]))] [(20000322,(⟨3,.int .i64,a,true,false⟩:ac))]
def AJ:ab:=⟨[4,5],[4,5],[],[],[(⟨true,5,2⟩,20000322)]⟩
def VL(a:LI)(b c:Int):St:=af [(4,xb 4)] [(4,(27,[yi b,yi c,.own 20000258]))] [(20000258,(⟨3,.int .i64,a,true,false⟩:ac))]
def VM:ab:=⟨[4],[4],[],[],[(⟨true,4,2⟩,20000258)]⟩
def VN:Nat->Option ab:=az [(2,ma),(1,ma),(0,AJ),(1000000,VM)]
abbrev kj{J:Type}(N n:Nat)(U:St)(l:ab)(K:KT J):Option J:=an Hh bm VN N (a8 99 (bn Tryz.f120) n) .n U (ay (some l) K)
def VO N b a (K:KT J):kj N 2 (VI b a) VJ K =
 ca.Z1 N b a (λa c d e f g=>K .nrm (Hi a c d e f g)):=by kernel_rfl
def VP N a b c d e f (K:KT J):kj N 5 (Hi a b c d e f) VK K =
 ca.Z3 N a b c d e f (λg a b c d e f h i=>K .nrm (Hj g a b c d e f h i)):=by kernel_rfl
def VQ N a b c d e f g h i (K:KT J):kj N 19 (Hj a b c d e f g h i) ma K =
 ca.Z6 N a b c d e f g h i (λa b j c d e f g h i=>K .nrm (jg a b j c d e f g h i)):=by kernel_rfl
def VR N a f g h i j b c d e (K:KT J):kj N 139 (jg a f g h i j b c d e) ma K =
 ca.Z10 N a f g h i j b c d e (λa f g h i j b c d e=>K .nrm (jg a f g h i j b c d e)) (λa b c d e=>K (.exit 0) (pN a b c d e)):=by kernel_rfl
def VS N a b c d e f g h i j (K:KT J):kj N 1099 (jg a b c d e f g h i j) Hl K =
 ca.Z14 N a b c d e f g h i j (λa b c l d e f g h i j=>K .nrm (vD a b c l d e f g h i j)):=by kernel_rfl
def VT N a b c d e f g h i j l (K:KT J):kj N 2635 (vD a b c d e f g h i j l) Hl K =
 ca.Z16 N a b c d e f g h i j l (λa b c d e f g h i j l=>K .nrm (vD a b c d e f g h i j l)):=by kernel_rfl
def VU N a b c d e f g h i j l (K:KT J):kj N 5707 (vD a b c d e f g h i j l) Hm K =
 ca.Z18 N a b c d e f g h i j l (λa b c d m e f g h i j l=>K .nrm (vE a b c d m e f g h i j l)):=by kernel_rfl
def VV N a b c l m d e f g h i j (K:KT J):kj N 20043 (vE a b c l m d e f g h i j) Hm K =
 ca.Z21 N a b c l m d e f g h i j (λa b c l m d e f g h i j=>K .nrm (vE a b c l m d e f g h i j)) (λa b c d e f g h i j=>K (.exit 2) (jg a b c d e f g h i j)):=by kernel_rfl
def VW N (K:KT J):=rL K (ca.Z20L N (λa b c d e f g h i j=>K (.exit 2) (jg a b c d e f g h i j))) (λa b c l m d e f g h i j k=>ca.Z21 N a b c l m d e f g h i j k (λa b c d e f g h i j=>K (.exit 2) (jg a b c d e f g h i j))) (λF a b c l m d e f g h i j=>VV N a b c l m d e f g h i j _) (by kernel_rfl)
def VX N a b c d e f g h i j l m (K:KT J):=vL (vE a b c d e f g h i j l m) (VW N (jK ma K) N a b c d e f g h i j l m) (by kernel_rfl)
def VY N a b c l m d e f g h i j (K:KT J):=vB 2 ma K (ca.Z19 N a b c l m d e f g h i j (λa b c d e f g h i j=>K .nrm (jg a b c d e f g h i j))) (VX N a b c l m d e f g h i j _) (by kernel_rfl)
def VZ N a b c d e f g h i j l (K:KT J):=vQ (λk=>ca.Z18 N a b c d e f g h i j l k) (VU N a b c d e f g h i j l _) (j0 λa b c d m e f g h i j l=>VY N a b c d m e f g h i j l K)
def V0 N a b c d e f g h i j l (K:KT J):=vQ (λk=>ca.Z16 N a b c d e f g h i j l k) (VT N a b c d e f g h i j l _) (fE λa b c d e f g h i j l=>VZ N a b c d e f g h i j l K)
def V1 N a b c d e f g h i j (K:KT J):=vQ (λk=>ca.Z14 N a b c d e f g h i j k) (VS N a b c d e f g h i j _) (fE λa b c l d e f g h i j=>V0 N a b c l d e f g h i j K)
def V2 N a b c d e f g h i j (K:KT J):=vB 1 ma K (ca.Z12 N a b c d e f g h i j (λa b c d e f g h i j=>K .nrm (jg a b c d e f g h i j))) (V1 N a b c d e f g h i j _) (by kernel_rfl)
def V3 N a b c d e f g h i j (K:KT J):kj N 459 (jg a b c d e f g h i j) ma K =
 ca.Z22 N a b c d e f g h i j (λa b c d e f g h i j=>K .nrm (jg a b c d e f g h i j)):=by kernel_rfl
def V4 N a b c d e f g h i j (K:KT J):=vQ (λk=>ca.Z12 N a b c d e f g h i j k) (V2 N a b c d e f g h i j _) (cJ λa b c d e f g h i j=>V3 N a b c d e f g h i j K)
def V5 N a f g h i j b c d e (K:KT J):=vQ (λk=>ca.Z10 N a f g h i j b c d e k (λa b c d e=>K (.exit 0) (pN a b c d e))) (VR N a f g h i j b c d e _) (cJ λa f g h i j b c d e=>V4 N a f g h i j b c d e K)
def V6 N (K:KT J):=kP K (ca.Z8L N (λa b c d e=>K (.exit 0) (pN a b c d e))) (λa f g h i j b c d e k=>ca.Z9 N a f g h i j b c d e k (λa b c d e=>K (.exit 0) (pN a b c d e))) (λF a f g h i j b c d e=>V5 N a f g h i j b c d e _) (by kernel_rfl)
def V7 N a b c d e f g h i j (K:KT J):=vL (jg a b c d e f g h i j) (V6 N (jK AJ K) N a b c d e f g h i j) (by kernel_rfl)
def V8 N a f g h i j b c d e (K:KT J):=vB 0 AJ K (ca.Z7 N a f g h i j b c d e (λa b c d e=>K .nrm (pN a b c d e))) (V7 N a f g h i j b c d e _) (by kernel_rfl)
def V9 N a b c d e f g h i (K:KT J):=vQ (λk=>ca.Z6 N a b c d e f g h i k) (VQ N a b c d e f g h i _) (cJ λa b j c d e f g h i=>V8 N a b j c d e f g h i K)
def Wa N c a b d e (K:KT J):kj N 15 (pN c a b d e) VH K =
 ca.Z23 N c a b d e (λf a b=>K .ret (VL f a b)):=by kernel_rfl
def Wb N a f g h i b c d e (K:KT J):=vQ (λk=>ca.Z5 N a f g h i b c d e k) (V9 N a f g h i b c d e _) (bO λa b c d e=>Wa N a b c d e K)
def Wc N a b c d e f (K:KT J):=vQ (λk=>ca.Z3 N a b c d e f k) (VP N a b c d e f _) (c6 λg a b c d e f h i=>Wb N g a b c d e f h i K)
def Wd N b a (K:KT J):=vQ (λk=>ca.Z1 N b a k) (VO N b a _) (cC λa c d e f g=>Wc N a c d e f g K)
def We(h:ca.Spec):av Tryz.prog 120 AI :=
 bu Tryz.func120 bq VG (λN X K=>Wd N X.1 X.2.1 K) (by kernel_rfl) λX hb hp=>by obtain⟨a,b,_⟩:=X;obtain⟨N,h⟩:=h a b hb.1 hb.2.1 hp;exact⟨N,Eq.trans (by kernel_rfl) (h N (Nat.le_refl N))⟩
def Wf:av Tryz.prog 120 AI:=We ca.ok
def Hn:aW:=⟨[⟨.sl 3 (.int .i64),false,false⟩,⟨.sl 3 (.int .i64),false,false⟩],[⟨.bool,false,false⟩]⟩
def vF:aK:=⟨Hn,none,λX=>((),((eR.g X.1 X.2.1),()))⟩
def Ho:Gm:=bi
def Wg:aw Tryz.prog Ho:=aw.nil
def Wh:ab:=⟨[],[],[],[],[]⟩
def Wi(a b:LI):St:=be Hn.ps (a,(b,()))
def nS(a b:LI):St:=af [(0,.c (.sn 3 tI a none)),(1,.c (.sn 3 tI b none))] [] []
def vG:ab:=⟨[0,1],[],[],[],[]⟩
def vH(a b:LI)(d:Int):St:=af [(0,.c (.sn 3 tI a none)),(1,.c (.sn 3 tI b none)),(5,xi d)] [] []
def Hp:ab:=⟨[0,1,5],[],[],[],[]⟩
def pO(a:Bool):St:=af [(4,xB a)] [] []
def Wj:ab:=⟨[4],[],[],[],[]⟩
def Wk:Nat->Option ab:=az [(0,vG),(1000000,Wj)]
abbrev vJ{J:Type}(N n:Nat)(U:St)(l:ab)(K:KT J):Option J:=an Ho bm Wk N (a8 99 (bn Tryz.f89) n) .n U (ay (some l) K)
def Wl N a b (K:KT J):vJ N 2 (Wi a b) vG K =
 eR.Z1 N a b (λa b=>K .nrm (nS a b)):=by kernel_rfl
def Wm N a b (K:KT J):vJ N 9 (nS a b) Hp K =
 eR.Z4 N a b (λa b c=>K .nrm (vH a b c)):=by kernel_rfl
def Wn N a b c (K:KT J):vJ N 37 (vH a b c) Hp K =
 eR.Z7 N a b c (λa b c=>K .nrm (vH a b c)) (λa b=>K (.exit 0) (nS a b)) (λd=>K .ret (pO d)):=by kernel_rfl
def Wo N (K:KT J):=gS K (eR.Z6L N (λa b=>K (.exit 0) (nS a b)) (λc=>K .ret (pO c))) (λa b d k=>eR.Z7 N a b d k (λa b=>K (.exit 0) (nS a b)) (λc=>K .ret (pO c))) (λF a b d=>Wn N a b d _) (by kernel_rfl)
def Wp N a b c (K:KT J):=vL (vH a b c) (Wo N (jK vG K) N a b c) (by kernel_rfl)
def Wq N a b c (K:KT J):=vB 0 vG K (eR.Z5 N a b c (λa b=>K .nrm (nS a b)) (λd=>K .ret (pO d))) (Wp N a b c _) (by kernel_rfl)
def Wr N a b (K:KT J):=vQ (λk=>eR.Z4 N a b k) (Wm N a b _) (bZ λa b c=>Wq N a b c K)
def Ws N a b (K:KT J):vJ N 7 (nS a b) Wh K =
 eR.Z8 N a b (λc=>K .ret (pO c)):=by kernel_rfl
def Wu N a b (K:KT J):=vQ (λk=>eR.Z3 N a b k (λc=>K .ret (pO c))) (Wr N a b _) (cX λa b=>Ws N a b K)
def Wv N a b (K:KT J):=vQ (λk=>eR.Z1 N a b k) (Wl N a b _) (cX λa b=>Wu N a b K)
def Ww(h:eR.Spec):av Tryz.prog 89 vF :=
 bu Tryz.func89 bq Wg (λN X K=>Wv N X.1 X.2.1 K) (by kernel_rfl) λX hb hp=>by obtain⟨a,b,_⟩:=X;obtain⟨N,h⟩:=h a b hb.1 hb.2.1;exact⟨N,Eq.trans (by kernel_rfl) (h N (Nat.le_refl N))⟩
def Hq:av Tryz.prog 89 vF:=Ww eR.ok
def Hr:aW:=⟨[⟨.pair (.int .i64) (.pair (.int .i64) (.sl 3 (.int .i64))),true,false⟩],[⟨.pair (.int .i64) (.pair (.int .i64) (.sl 3 (.int .i64))),true,false⟩]⟩
def AK:aK:=⟨Hr,(some λX=>cM.P X.1),λX=>((),((cM.g X.1),()))⟩
def Hs:Gm:=aD (addM (aD (aD bi 70 sI) 89 vF) 119 AF) 120 AI
def Wx:aw Tryz.prog Hs:=((((aw.nil).add AC (by kernel_rfl)).add Hq (by kernel_rfl)).addM VF (by kernel_rfl)).add Wf (by kernel_rfl)
def Wy:ab:=⟨[],[],[],[],[]⟩
def Wz(a:MT):St:=be Hr.ps (a,())
def Ht(a b:Int)(c:LI)(d e:Int):St:=af [(1,xb 1),(2,xb 2)] [(1,(27,[yi a,yi b,.sn 3 tI c none])),(2,(27,[yi d,yi e,.nil]))] []
def WA:ab:=⟨[1,2],[1,2],[],[],[]⟩
def Hu(a:LI)(b c:Int)(d:LI)(e f g h:Int):St:=af [(1,xb 1),(2,xb 2),(3,xb 3)] [(1,(27,[yi b,yi c,.sn 3 tI d none])),(2,(27,[yi e,yi f,.nil])),(3,(27,[yi g,yi h,.own 20000194]))] [(20000194,(⟨3,.int .i64,a,true,false⟩:ac))]
def WB:ab:=⟨[1,2,3],[1,2,3],[],[],[(⟨true,3,2⟩,20000194)]⟩
def Hv(a:LL)(b:LI)(c d:Int)(e:LI)(f g h i:Int):St:=af [(1,xb 1),(2,xb 2),(3,xb 3),(4,xo 1000256)] [(1,(27,[yi c,yi d,.sn 3 tI e none])),(2,(27,[yi f,yi g,.nil])),(3,(27,[yi h,yi i,.own 20000194]))] [(1000256,(⟨22,.sl 3 tI,a,true,false⟩:ac)),(20000194,(⟨3,.int .i64,b,true,false⟩:ac))]
def WC:ab:=⟨[1,2,3,4],[1,2,3],[],[],[(⟨false,4,0⟩,1000256),(⟨true,3,2⟩,20000194)]⟩
def vK(a:LL)(b:LI)(c d e:Int)(f:LI)(g h i j:Int):St:=af [(1,xb 1),(2,xb 2),(3,xb 3),(4,xo 1000256),(5,xi c)] [(1,(27,[yi d,yi e,.sn 3 tI f none])),(2,(27,[yi g,yi h,.nil])),(3,(27,[yi i,yi j,.own 20000194]))] [(1000256,(⟨22,.sl 3 tI,a,true,false⟩:ac)),(20000194,(⟨3,.int .i64,b,true,false⟩:ac))]
def Hw:ab:=⟨[1,2,3,4,5],[1,2,3],[],[],[(⟨false,4,0⟩,1000256),(⟨true,3,2⟩,20000194)]⟩
def sL(a:LI)(b c d e:Int):St:=af [(2,xb 2),(3,xb 3)] [(2,(27,[yi b,yi c,.nil])),(3,(27,[yi d,yi e,.own 20000194]))] [(20000194,(⟨3,.int .i64,a,true,false⟩:ac))]
def AL:ab:=⟨[2,3],[2,3],[],[],[(⟨true,3,2⟩,20000194)]⟩
def WD(a:LI)(b c:Int):St:=af [(2,xb 2)] [(2,(27,[yi b,yi c,.own 20000130]))] [(20000130,(⟨3,.int .i64,a,true,false⟩:ac))]
def WE:ab:=⟨[2],[2],[],[],[(⟨true,2,2⟩,20000130)]⟩
def WF:Nat->Option ab:=az [(0,AL),(1000000,WE)]
abbrev pP{J:Type}(N n:Nat)(U:St)(l:ab)(K:KT J):Option J:=an Hs bm WF N (a8 99 (bn Tryz.f86) n) .n U (ay (some l) K)
def WG N a (K:KT J):pP N 2 (Wz a) WA K =
 cM.Z1 N a (λb c d e f=>K .nrm (Ht b c d e f)):=by kernel_rfl
def WH N a b c d e (K:KT J):pP N 5 (Ht a b c d e) WB K =
 cM.Z3 N a b c d e (λf a b c d e g h=>K .nrm (Hu f a b c d e g h)):=by kernel_rfl
def WI N a b c d e f g h (K:KT J):pP N 11 (Hu a b c d e f g h) WC K =
 cM.Z5 N a b c d e f g h (λi a b c d e f g h=>K .nrm (Hv i a b c d e f g h)):=by kernel_rfl
def WJ N a b c d e f g h i (K:KT J):pP N 39 (Hv a b c d e f g h i) Hw K =
 cM.Z8 N a b c d e f g h i (λa b j c d e f g h i=>K .nrm (vK a b j c d e f g h i)):=by kernel_rfl
def WK N f a g h i j b c d e (K:KT J):pP N 151 (vK f a g h i j b c d e) Hw K =
 cM.Z11 N f a g h i j b c d e (λf a g h i j b c d e=>K .nrm (vK f a g h i j b c d e)) (λa b c d e=>K (.exit 0) (sL a b c d e)):=by kernel_rfl
def WL N (K:KT J):=kP K (cM.Z10L N (λa b c d e=>K (.exit 0) (sL a b c d e))) (λf a g h i j b c d e k=>cM.Z11 N f a g h i j b c d e k (λa b c d e=>K (.exit 0) (sL a b c d e))) (λF f a g h i j b c d e=>WK N f a g h i j b c d e _) (by kernel_rfl)
def WM N a b c d e f g h i j (K:KT J):=vL (vK a b c d e f g h i j) (WL N (jK AL K) N a b c d e f g h i j) (by kernel_rfl)
def WN N f a g h i j b c d e (K:KT J):=vB 0 AL K (cM.Z9 N f a g h i j b c d e (λa b c d e=>K .nrm (sL a b c d e))) (WM N f a g h i j b c d e _) (by kernel_rfl)
def WO N a b c d e f g h i (K:KT J):=vQ (λk=>cM.Z8 N a b c d e f g h i k) (WJ N a b c d e f g h i _) (cJ λa b j c d e f g h i=>WN N a b j c d e f g h i K)
def WP N c a b d e (K:KT J):pP N 31 (sL c a b d e) Wy K =
 cM.Z12 N c a b d e (λf a b=>K .ret (WD f a b)):=by kernel_rfl
def WQ N f a g h i b c d e (K:KT J):=vQ (λk=>cM.Z7 N f a g h i b c d e k) (WO N f a g h i b c d e _) (bO λa b c d e=>WP N a b c d e K)
def WR N a b c d e f g h (K:KT J):=vQ (λk=>cM.Z5 N a b c d e f g h k) (WI N a b c d e f g h _) (c6 λi a b c d e f g h=>WQ N i a b c d e f g h K)
def WS N a b c d e (K:KT J):=vQ (λk=>cM.Z3 N a b c d e k) (WH N a b c d e _) (eX λf a b c d e g h=>WR N f a b c d e g h K)
def WT N a (K:KT J):=vQ (λk=>cM.Z1 N a k) (WG N a _) (bO λb c d e f=>WS N b c d e f K)
def WU(h:cM.Spec):av Tryz.prog 86 AK :=
 bu Tryz.func86 bq Wx (λN X K=>WT N X.1 K) (by kernel_rfl) λX hb hp=>by obtain⟨a,_⟩:=X;obtain⟨N,h⟩:=h a hb.1 hp;exact⟨N,Eq.trans (by kernel_rfl) (h N (Nat.le_refl N))⟩
def WV:av Tryz.prog 86 AK:=WU cM.ok
def Hx:aW:=⟨[⟨.pair (.int .i64) (.pair (.int .i64) (.sl 3 (.int .i64))),true,false⟩,⟨.int .i64,false,false⟩],[⟨.pair (.int .i64) (.pair (.int .i64) (.sl 3 (.int .i64))),true,false⟩]⟩
def AM:aK:=⟨Hx,(some λX=>bR.P X.1 X.2.1),λX=>((),((bR.g X.1 X.2.1),()))⟩
def Hy:Gm:=aD (aD bi 70 sI) 105 jG
def WW:aw Tryz.prog Hy:=((aw.nil).add AC (by kernel_rfl)).add kW (by kernel_rfl)
def WX:ab:=⟨[],[],[],[],[]⟩
def WY(a:MT)(b:Int):St:=be Hx.ps (a,(b,()))
def Hz(a b c:Int)(d:LI)(e f:Int):St:=af [(1,xi a),(2,xb 2),(4,xb 4)] [(2,(27,[yi b,yi c,.sn 3 tI d none])),(4,(27,[yi e,yi f,.nil]))] []
def WZ:ab:=⟨[1,2,4],[2,4],[],[],[]⟩
def HA(a:LI)(b c d:Int)(e:LI)(f g h i:Int):St:=af [(1,xi b),(2,xb 2),(4,xb 4),(5,xb 5)] [(2,(27,[yi c,yi d,.sn 3 tI e none])),(4,(27,[yi f,yi g,.nil])),(5,(27,[yi h,yi i,.own 20000322]))] [(20000322,(⟨3,.int .i64,a,true,false⟩:ac))]
def W0:ab:=⟨[1,2,4,5],[2,4,5],[],[],[(⟨true,5,2⟩,20000322)]⟩
def iF(a:LI)(b c d e:Int)(f:LI)(g h i j:Int):St:=af [(1,xi b),(2,xb 2),(4,xb 4),(5,xb 5),(6,xi c)] [(2,(27,[yi d,yi e,.sn 3 tI f none])),(4,(27,[yi g,yi h,.nil])),(5,(27,[yi i,yi j,.own 20000322]))] [(20000322,(⟨3,.int .i64,a,true,false⟩:ac))]
def mb:ab:=⟨[1,2,4,5,6],[2,4,5],[],[],[(⟨true,5,2⟩,20000322)]⟩
def ko(a:LI)(b c d e f:Int)(g:LI)(h i j l:Int):St:=af [(1,xi b),(2,xb 2),(4,xb 4),(5,xb 5),(6,xi c),(7,xi d)] [(2,(27,[yi e,yi f,.sn 3 tI g none])),(4,(27,[yi h,yi i,.nil])),(5,(27,[yi j,yi l,.own 20000322]))] [(20000322,(⟨3,.int .i64,a,true,false⟩:ac))]
def mc:ab:=⟨[1,2,4,5,6,7],[2,4,5],[],[],[(⟨true,5,2⟩,20000322)]⟩
def HB(a:LI)(b c d e f g:Int)(h:LI)(i j l m:Int):St:=af [(1,xi b),(2,xb 2),(4,xb 4),(5,xb 5),(6,xi c),(7,xi d),(8,xi e)] [(2,(27,[yi f,yi g,.sn 3 tI h none])),(4,(27,[yi i,yi j,.nil])),(5,(27,[yi l,yi m,.own 20000322]))] [(20000322,(⟨3,.int .i64,a,true,false⟩:ac))]
def W3:ab:=⟨[1,2,4,5,6,7,8],[2,4,5],[],[],[(⟨true,5,2⟩,20000322)]⟩
def HC(a:LI)(b c d e f g h:Int)(i:LI)(j l m o:Int):St:=af [(1,xi b),(2,xb 2),(4,xb 4),(5,xb 5),(6,xi c),(7,xi d),(8,xi e),(9,xi f)] [(2,(27,[yi g,yi h,.sn 3 tI i none])),(4,(27,[yi j,yi l,.nil])),(5,(27,[yi m,yi o,.own 20000322]))] [(20000322,(⟨3,.int .i64,a,true,false⟩:ac))]
def W4:ab:=⟨[1,2,4,5,6,7,8,9],[2,4,5],[],[],[(⟨true,5,2⟩,20000322)]⟩
def HD(a:LI)(b c d e f:Int)(g:Bool)(h i:Int)(j:LI)(l m o p:Int):St:=af [(1,xi b),(2,xb 2),(4,xb 4),(5,xb 5),(6,xi c),(7,xi d),(8,xi e),(9,xi f),(32,xB g)] [(2,(27,[yi h,yi i,.sn 3 tI j none])),(4,(27,[yi l,yi m,.nil])),(5,(27,[yi o,yi p,.own 20000322]))] [(20000322,(⟨3,.int .i64,a,true,false⟩:ac))]
def W5:ab:=⟨[1,2,4,5,6,7,8,9,32],[2,4,5],[],[],[(⟨true,5,2⟩,20000322)]⟩
def pQ(a:LI)(b c d e:Int):St:=af [(4,xb 4),(5,xb 5)] [(4,(27,[yi b,yi c,.nil])),(5,(27,[yi d,yi e,.own 20000322]))] [(20000322,(⟨3,.int .i64,a,true,false⟩:ac))]
def AN:ab:=⟨[4,5],[4,5],[],[],[(⟨true,5,2⟩,20000322)]⟩
def W6(a:LI)(b c:Int):St:=af [(4,xb 4)] [(4,(27,[yi b,yi c,.own 20000258]))] [(20000258,(⟨3,.int .i64,a,true,false⟩:ac))]
def W7:ab:=⟨[4],[4],[],[],[(⟨true,4,2⟩,20000258)]⟩
def W8:Nat->Option ab:=az [(4,mc),(3,mc),(2,mb),(1,mb),(0,AN),(1000000,W7)]
abbrev iG{J:Type}(N n:Nat)(U:St)(l:ab)(K:KT J):Option J:=an Hy bm W8 N (a8 99 (bn Tryz.f87) n) .n U (ay (some l) K)
def W9 N b a (K:KT J):iG N 2 (WY b a) WZ K =
 bR.Z1 N b a (λa c d e f g=>K .nrm (Hz a c d e f g)):=by kernel_rfl
def Xa N a b c d e f (K:KT J):iG N 5 (Hz a b c d e f) W0 K =
 bR.Z3 N a b c d e f (λg a b c d e f h i=>K .nrm (HA g a b c d e f h i)):=by kernel_rfl
def Xb N a b c d e f g h i (K:KT J):iG N 19 (HA a b c d e f g h i) mb K =
 bR.Z6 N a b c d e f g h i (λa b j c d e f g h i=>K .nrm (iF a b j c d e f g h i)):=by kernel_rfl
def Xc N a f g h i j b c d e (K:KT J):iG N 139 (iF a f g h i j b c d e) mb K =
 bR.Z10 N a f g h i j b c d e (λa f g h i j b c d e=>K .nrm (iF a f g h i j b c d e)) (λa b c d e=>K (.exit 0) (pQ a b c d e)):=by kernel_rfl
def Xd N a b c d e f g h i j (K:KT J):iG N 1099 (iF a b c d e f g h i j) mc K =
 bR.Z14 N a b c d e f g h i j (λa b c l d e f g h i j=>K .nrm (ko a b c l d e f g h i j)):=by kernel_rfl
def Xe N a b c l d e f g h i j (K:KT J):iG N 8779 (ko a b c l d e f g h i j) mc K =
 bR.Z18 N a b c l d e f g h i j (λa b c l d e f g h i j=>K .nrm (ko a b c l d e f g h i j)) (λa b c d e f g h i j=>K (.exit 2) (iF a b c d e f g h i j)):=by kernel_rfl
def Xf N a b c d e f g h i j l (K:KT J):iG N 70219 (ko a b c d e f g h i j l) W3 K =
 bR.Z22 N a b c d e f g h i j l (λa b c d m e f g h i j l=>K .nrm (HB a b c d m e f g h i j l)):=by kernel_rfl
def Xg N a b c d e f g h i j l m (K:KT J):iG N 168523 (HB a b c d e f g h i j l m) W4 K =
 bR.Z24 N a b c d e f g h i j l m (λa b c d e o f g h i j l m=>K .nrm (HC a b c d e o f g h i j l m)):=by kernel_rfl
def Xh N a b c d e f g h i j l m o (K:KT J):iG N 627275 (HC a b c d e f g h i j l m o) W5 K =
 bR.Z27 N a b c d e f g h i j l m o (λa b c d e f p g h i j l m o=>K .nrm (HD a b c d e f p g h i j l m o)):=by kernel_rfl
def Xi N a b c d m o p e f g h i j l (K:KT J):iG N 889419 (HD a b c d m o p e f g h i j l) mc K =
 bR.Z28 N a b c d m o p e f g h i j l (λa b c d e f g h i j l=>K .nrm (ko a b c d e f g h i j l)):=by kernel_rfl
def Xj N a b c d e f g h i j l m o (K:KT J):=vQ (λk=>bR.Z27 N a b c d e f g h i j l m o k) (Xh N a b c d e f g h i j l m o _) (uA λa b c d e f p g h i j l m o=>Xi N a b c d e f p g h i j l m o K)
def Xk N a b c d m o e f g h i j l (K:KT J):=vB 4 mc K (bR.Z25 N a b c d m o e f g h i j l (λa b c d e f g h i j l=>K .nrm (ko a b c d e f g h i j l))) (Xj N a b c d m o e f g h i j l _) (by kernel_rfl)
def Xl N a b c d e f g h i j l m (K:KT J):=vQ (λk=>bR.Z24 N a b c d e f g h i j l m k) (Xg N a b c d e f g h i j l m _) (lN λa b c d e o f g h i j l m=>Xk N a b c d e o f g h i j l m K)
def Xm N a b c d e f g h i j l (K:KT J):=vQ (λk=>bR.Z22 N a b c d e f g h i j l k) (Xf N a b c d e f g h i j l _) (j0 λa b c d m e f g h i j l=>Xl N a b c d m e f g h i j l K)
def Xn N a b c d e f g h i j l (K:KT J):=vB 3 mc K (bR.Z20 N a b c d e f g h i j l (λa b c d e f g h i j l=>K .nrm (ko a b c d e f g h i j l))) (Xm N a b c d e f g h i j l _) (by kernel_rfl)
def Xo N a b c d e f g h i j l (K:KT J):iG N 29259 (ko a b c d e f g h i j l) mc K =
 bR.Z29 N a b c d e f g h i j l (λa b c d e f g h i j l=>K .nrm (ko a b c d e f g h i j l)):=by kernel_rfl
def Xp N a b c d e f g h i j l (K:KT J):=vQ (λk=>bR.Z20 N a b c d e f g h i j l k) (Xn N a b c d e f g h i j l _) (fE λa b c d e f g h i j l=>Xo N a b c d e f g h i j l K)
def Xq N a b c l d e f g h i j (K:KT J):=vQ (λk=>bR.Z18 N a b c l d e f g h i j k (λa b c d e f g h i j=>K (.exit 2) (iF a b c d e f g h i j))) (Xe N a b c l d e f g h i j _) (fE λa b c l d e f g h i j=>Xp N a b c l d e f g h i j K)
def Xr N (K:KT J):=oZ K (bR.Z16L N (λa b c d e f g h i j=>K (.exit 2) (iF a b c d e f g h i j))) (λa b c l d e f g h i j k=>bR.Z17 N a b c l d e f g h i j k (λa b c d e f g h i j=>K (.exit 2) (iF a b c d e f g h i j))) (λF a b c l d e f g h i j=>Xq N a b c l d e f g h i j _) (by kernel_rfl)
def Xs N a b c d e f g h i j l (K:KT J):=vL (ko a b c d e f g h i j l) (Xr N (jK mb K) N a b c d e f g h i j l) (by kernel_rfl)
def Xt N a b c l d e f g h i j (K:KT J):=vB 2 mb K (bR.Z15 N a b c l d e f g h i j (λa b c d e f g h i j=>K .nrm (iF a b c d e f g h i j))) (Xs N a b c l d e f g h i j _) (by kernel_rfl)
def Xu N a b c d e f g h i j (K:KT J):=vQ (λk=>bR.Z14 N a b c d e f g h i j k) (Xd N a b c d e f g h i j _) (fE λa b c l d e f g h i j=>Xt N a b c l d e f g h i j K)
def Xv N a b c d e f g h i j (K:KT J):=vB 1 mb K (bR.Z12 N a b c d e f g h i j (λa b c d e f g h i j=>K .nrm (iF a b c d e f g h i j))) (Xu N a b c d e f g h i j _) (by kernel_rfl)
def Xw N a b c d e f g h i j (K:KT J):iG N 459 (iF a b c d e f g h i j) mb K =
 bR.Z30 N a b c d e f g h i j (λa b c d e f g h i j=>K .nrm (iF a b c d e f g h i j)):=by kernel_rfl
def Xx N a b c d e f g h i j (K:KT J):=vQ (λk=>bR.Z12 N a b c d e f g h i j k) (Xv N a b c d e f g h i j _) (cJ λa b c d e f g h i j=>Xw N a b c d e f g h i j K)
def Xy N a f g h i j b c d e (K:KT J):=vQ (λk=>bR.Z10 N a f g h i j b c d e k (λa b c d e=>K (.exit 0) (pQ a b c d e))) (Xc N a f g h i j b c d e _) (cJ λa f g h i j b c d e=>Xx N a f g h i j b c d e K)
def Xz N (K:KT J):=kP K (bR.Z8L N (λa b c d e=>K (.exit 0) (pQ a b c d e))) (λa f g h i j b c d e k=>bR.Z9 N a f g h i j b c d e k (λa b c d e=>K (.exit 0) (pQ a b c d e))) (λF a f g h i j b c d e=>Xy N a f g h i j b c d e _) (by kernel_rfl)
def XA N a b c d e f g h i j (K:KT J):=vL (iF a b c d e f g h i j) (Xz N (jK AN K) N a b c d e f g h i j) (by kernel_rfl)
def XB N a f g h i j b c d e (K:KT J):=vB 0 AN K (bR.Z7 N a f g h i j b c d e (λa b c d e=>K .nrm (pQ a b c d e))) (XA N a f g h i j b c d e _) (by kernel_rfl)
def XC N a b c d e f g h i (K:KT J):=vQ (λk=>bR.Z6 N a b c d e f g h i k) (Xb N a b c d e f g h i _) (cJ λa b j c d e f g h i=>XB N a b j c d e f g h i K)
def XD N c a b d e (K:KT J):iG N 15 (pQ c a b d e) WX K =
 bR.Z31 N c a b d e (λf a b=>K .ret (W6 f a b)):=by kernel_rfl
def XE N a f g h i b c d e (K:KT J):=vQ (λk=>bR.Z5 N a f g h i b c d e k) (XC N a f g h i b c d e _) (bO λa b c d e=>XD N a b c d e K)
def XF N a b c d e f (K:KT J):=vQ (λk=>bR.Z3 N a b c d e f k) (Xa N a b c d e f _) (c6 λg a b c d e f h i=>XE N g a b c d e f h i K)
def XG N b a (K:KT J):=vQ (λk=>bR.Z1 N b a k) (W9 N b a _) (cC λa c d e f g=>XF N a c d e f g K)
def XH(h:bR.Spec):av Tryz.prog 87 AM :=
 bu Tryz.func87 bq WW (λN X K=>XG N X.1 X.2.1 K) (by kernel_rfl) λX hb hp=>by obtain⟨a,b,_⟩:=X;obtain⟨N,h⟩:=h a b hb.1 hp;exact⟨N,Eq.trans (by kernel_rfl) (h N (Nat.le_refl N))⟩
def XI:av Tryz.prog 87 AM:=XH bR.ok
def HE:aW:=⟨[⟨.sl 3 (.int .i64),false,false⟩,⟨.sl 3 (.int .i64),false,false⟩],[⟨.bool,false,false⟩]⟩
def AO:aK:=⟨HE,none,λX=>((),((fq.g X.1 X.2.1),()))⟩
def HF:Gm:=bi
def XJ:aw Tryz.prog HF:=aw.nil
def XK:ab:=⟨[],[],[],[],[]⟩
def XL(a b:LI):St:=be HE.ps (a,(b,()))
def vM(a b:LI):St:=af [(0,.c (.sn 3 tI a none)),(1,.c (.sn 3 tI b none))] [] []
def HG:ab:=⟨[0,1],[],[],[],[]⟩
def vN(a b:LI)(d:Int):St:=af [(0,.c (.sn 3 tI a none)),(1,.c (.sn 3 tI b none)),(5,xi d)] [] []
def HH:ab:=⟨[0,1,5],[],[],[],[]⟩
def sM :St:=af [] [] []
def AP:ab:=⟨[],[],[],[],[]⟩
def md(a:Bool):St:=af [(4,xB a)] [] []
def XM:ab:=⟨[4],[],[],[],[]⟩
def XN:Nat->Option ab:=az [(0,AP),(1000000,XM)]
abbrev sN{J:Type}(N n:Nat)(U:St)(l:ab)(K:KT J):Option J:=an HF bm XN N (a8 99 (bn Tryz.f88) n) .n U (ay (some l) K)
def XO N a b (K:KT J):sN N 2 (XL a b) HG K =
 fq.Z1 N a b (λa b=>K .nrm (vM a b)):=by kernel_rfl
def XP N a b (K:KT J):sN N 5 (vM a b) HG K =
 fq.Z3 N a b (λa b=>K .nrm (vM a b)) (λc=>K .ret (md c)):=by kernel_rfl
def XQ N a b (K:KT J):sN N 19 (vM a b) HH K =
 fq.Z6 N a b (λa b c=>K .nrm (vN a b c)):=by kernel_rfl
def XR N a b c (K:KT J):sN N 75 (vN a b c) HH K =
 fq.Z9 N a b c (λa b c=>K .nrm (vN a b c)) (K (.exit 0) sM) (λd=>K .ret (md d)):=by kernel_rfl
def XS N (K:KT J):=gS K (fq.Z8L N (K (.exit 0) sM) (λa=>K .ret (md a))) (λb c d k=>fq.Z9 N b c d k (K (.exit 0) sM) (λa=>K .ret (md a))) (λF b c d=>XR N b c d _) (by kernel_rfl)
def XT N a b c (K:KT J):=vL (vN a b c) (XS N (jK AP K) N a b c) (by kernel_rfl)
def XU N a b c (K:KT J):=vB 0 AP K (fq.Z7 N a b c (K .nrm sM) (λd=>K .ret (md d))) (XT N a b c _) (by kernel_rfl)
def XV N a b (K:KT J):=vQ (λk=>fq.Z6 N a b k) (XQ N a b _) (bZ λa b c=>XU N a b c K)
def XW N  (K:KT J):sN N 15 sM XK K =
 fq.Z10 N (λa=>K .ret (md a)):=by kernel_rfl
def XX N a b (K:KT J):=vQ (λk=>fq.Z5 N a b k (λc=>K .ret (md c))) (XV N a b _) (XW N K)
def XY N a b (K:KT J):=vQ (λk=>fq.Z3 N a b k (λc=>K .ret (md c))) (XP N a b _) (cX λa b=>XX N a b K)
def XZ N a b (K:KT J):=vQ (λk=>fq.Z1 N a b k) (XO N a b _) (cX λa b=>XY N a b K)
def X0(h:fq.Spec):av Tryz.prog 88 AO :=
 bu Tryz.func88 bq XJ (λN X K=>XZ N X.1 X.2.1 K) (by kernel_rfl) λX hb hp=>by obtain⟨a,b,_⟩:=X;obtain⟨N,h⟩:=h a b hb.1 hb.2.1;exact⟨N,Eq.trans (by kernel_rfl) (h N (Nat.le_refl N))⟩
def X1:av Tryz.prog 88 AO:=X0 fq.ok
def HI:aW:=⟨[⟨.pair (.int .i64) (.pair (.int .i64) (.sl 3 (.int .i64))),true,false⟩],[⟨.sl 27 (.pair (.int .i64) (.pair (.int .i64) (.sl 3 (.int .i64)))),false,false⟩,⟨.bool,false,false⟩]⟩
def AQ:aK:=⟨HI,(some λX=>bG.P X.1),λX=>((),((bG.g X.1).1,((bG.g X.1).2,())))⟩
def HJ:Gm:=aD (aD (aD (aD bi 65 vg) 86 AK) 87 AM) 88 AO
def X3:aw Tryz.prog HJ:=((((aw.nil).add GB (by kernel_rfl)).add WV (by kernel_rfl)).add XI (by kernel_rfl)).add X1 (by kernel_rfl)
def X4:ab:=⟨[],[],[],[],[]⟩
def X5(a:MT):St:=be HI.ps (a,())
def HK(a b:Int)(c:LI):St:=af [(1,xb 1)] [(1,(27,[yi a,yi b,.sn 3 tI c none]))] []
def X6:ab:=⟨[1],[1],[],[],[]⟩
def HL(a:LM)(b c:Int)(d:LI):St:=af [(1,xb 1),(4,xo 1000256)] [(1,(27,[yi b,yi c,.sn 3 tI d none]))] [(1000256,(⟨27,tM 3,a,true,false⟩:ac))]
def X7:ab:=⟨[1,4],[1],[],[],[(⟨false,4,0⟩,1000256)]⟩
def iH(a:LM)(b c d:Int)(e:LI):St:=af [(1,xb 1),(4,xo 1000256),(5,xi b)] [(1,(27,[yi c,yi d,.sn 3 tI e none]))] [(1000256,(⟨27,tM 3,a,true,false⟩:ac))]
def me:ab:=⟨[1,4,5],[1],[],[],[(⟨false,4,0⟩,1000256)]⟩
def k9(a:LM)(b c d e:Int)(f:LI):St:=af [(1,xb 1),(4,xo 1000256),(5,xi b),(6,xi c)] [(1,(27,[yi d,yi e,.sn 3 tI f none]))] [(1000256,(⟨27,tM 3,a,true,false⟩:ac))]
def pR:ab:=⟨[1,4,5,6],[1],[],[],[(⟨false,4,0⟩,1000256)]⟩
def pS(a:LM)(b:LI)(c d e f:Int)(g:LI)(h i:Int):St:=af [(1,xb 1),(4,xo 1000256),(5,xi c),(6,xi d),(7,xb 7)] [(1,(27,[yi e,yi f,.sn 3 tI g none])),(7,(27,[yi h,yi i,.own 20000450]))] [(1000256,(⟨27,tM 3,a,true,false⟩:ac)),(20000450,(⟨3,.int .i64,b,true,false⟩:ac))]
def AR:ab:=⟨[1,4,5,6,7],[1,7],[],[],[(⟨false,4,0⟩,1000256),(⟨true,7,2⟩,20000450)]⟩
def nT(a:LM)(b:LI)(c d:Int)(e:Bool)(f g:Int)(h:LI)(i j:Int):St:=af [(1,xb 1),(4,xo 1000256),(5,xi c),(6,xi d),(7,xb 7),(8,xB e)] [(1,(27,[yi f,yi g,.sn 3 tI h none])),(7,(27,[yi i,yi j,.own 20000450]))] [(1000256,(⟨27,tM 3,a,true,false⟩:ac)),(20000450,(⟨3,.int .i64,b,true,false⟩:ac))]
def vO:ab:=⟨[1,4,5,6,7,8],[1,7],[],[],[(⟨false,4,0⟩,1000256),(⟨true,7,2⟩,20000450)]⟩
def vR(a:LM)(b:LI)(c d:Int)(e:Bool)(f g h:Int)(i:LI)(j l:Int):St:=af [(1,xb 1),(4,xo 1000256),(5,xi c),(6,xi d),(7,xb 7),(8,xB e),(9,xi f)] [(1,(27,[yi g,yi h,.sn 3 tI i none])),(7,(27,[yi j,yi l,.own 20000450]))] [(1000256,(⟨27,tM 3,a,true,false⟩:ac)),(20000450,(⟨3,.int .i64,b,true,false⟩:ac))]
def HM:ab:=⟨[1,4,5,6,7,8,9],[1,7],[],[],[(⟨false,4,0⟩,1000256),(⟨true,7,2⟩,20000450)]⟩
def pT(a:LM):St:=af [(4,xo 1000256)] [] [(1000256,(⟨27,tM 3,a,true,false⟩:ac))]
def AS:ab:=⟨[4],[],[],[],[(⟨false,4,0⟩,1000256)]⟩
def gI(a:LM)(b:Bool):St:=af [(2,xo 1000128),(3,xB b)] [] [(1000128,(⟨27,tM 3,a,true,false⟩:ac))]
def X8:ab:=⟨[2,3],[],[⟨⟨false,2,0⟩,30000000,27,.pair (.int .i64) (.pair (.int .i64) (.sl 3 (.int .i64))),true⟩],[],[(⟨false,2,0⟩,1000128)]⟩
def X9:Nat->Option ab:=az [(4,vO),(3,pR),(2,me),(1,me),(0,AS),(1000000,X8)]
abbrev gz{J:Type}(N n:Nat)(U:St)(l:ab)(K:KT J):Option J:=an HJ bm X9 N (a8 99 (bn Tryz.f44) n) .n U (ay (some l) K)
def Ya N a (K:KT J):gz N 2 (X5 a) X6 K =
 bG.Z1 N a (λb c d=>K .nrm (HK b c d)):=by kernel_rfl
def Yb N a b c (K:KT J):gz N 5 (HK a b c) X7 K =
 bG.Z3 N a b c (λd a b c=>K .nrm (HL d a b c)):=by kernel_rfl
def Yc N a b c d (K:KT J):gz N 19 (HL a b c d) me K =
 bG.Z6 N a b c d (λa e b c d=>K .nrm (iH a e b c d)):=by kernel_rfl
def Yd N a b c d e (K:KT J):gz N 139 (iH a b c d e) me K =
 bG.Z10 N a b c d e (λa b c d e=>K .nrm (iH a b c d e)) (λa=>K (.exit 0) (pT a)):=by kernel_rfl
def Ye N a b c d e (K:KT J):gz N 1099 (iH a b c d e) pR K =
 bG.Z14 N a b c d e (λa b f c d e=>K .nrm (k9 a b f c d e)):=by kernel_rfl
def Yf N a b f c d e (K:KT J):gz N 8779 (k9 a b f c d e) pR K =
 bG.Z18 N a b f c d e (λa b f c d e=>K .nrm (k9 a b f c d e)) (λa b c d e=>K (.exit 2) (iH a b c d e)):=by kernel_rfl
def Yg N a b c d e f (K:KT J):gz N 70219 (k9 a b c d e f) AR K =
 bG.Z22 N a b c d e f (λa g b c d e f h i=>K .nrm (pS a g b c d e f h i)):=by kernel_rfl
def Yh N a b c d e f g h i (K:KT J):gz N 168523 (pS a b c d e f g h i) AR K =
 bG.Z24 N a b c d e f g h i (λa b c d e f g h i=>K .nrm (pS a b c d e f g h i)) (λj l=>K .ret (gI j l)):=by kernel_rfl
def Yi N a b c d e f g h i (K:KT J):gz N 365131 (pS a b c d e f g h i) AR K =
 bG.Z26 N a b c d e f g h i (λa b c d e f g h i=>K .nrm (pS a b c d e f g h i)):=by kernel_rfl
def Yj N a b c d e f g h i (K:KT J):gz N 758347 (pS a b c d e f g h i) vO K =
 bG.Z28 N a b c d e f g h i (λa b c d j e f g h i=>K .nrm (nT a b c d j e f g h i)):=by kernel_rfl
def Yk N a b c d e f g h i j (K:KT J):gz N 2593355 (nT a b c d e f g h i j) HM K =
 bG.Z31 N a b c d e f g h i j (λa b c d e l f g h i j=>K .nrm (vR a b c d e l f g h i j)):=by kernel_rfl
def Yl N a b c d e l f g h i j (K:KT J):gz N 9933387 (vR a b c d e l f g h i j) HM K =
 bG.Z34 N a b c d e l f g h i j (λa b c d e l f g h i j=>K .nrm (vR a b c d e l f g h i j)) (λa b c d e f g h i j=>K (.exit 4) (nT a b c d e f g h i j)):=by kernel_rfl
def Ym N (K:KT J):=oZ K (bG.Z33L N (λa b c d e f g h i j=>K (.exit 4) (nT a b c d e f g h i j))) (λa b c d e l f g h i j k=>bG.Z34 N a b c d e l f g h i j k (λa b c d e f g h i j=>K (.exit 4) (nT a b c d e f g h i j))) (λF a b c d e l f g h i j=>Yl N a b c d e l f g h i j _) (by kernel_rfl)
def Yn N a b c d e f g h i j l (K:KT J):=vL (vR a b c d e f g h i j l) (Ym N (jK vO K) N a b c d e f g h i j l) (by kernel_rfl)
def Yo N a b c d e l f g h i j (K:KT J):=vB 4 vO K (bG.Z32 N a b c d e l f g h i j (λa b c d e f g h i j=>K .nrm (nT a b c d e f g h i j))) (Yn N a b c d e l f g h i j _) (by kernel_rfl)
def Yp N a b c d e f g h i j (K:KT J):=vQ (λk=>bG.Z31 N a b c d e f g h i j k) (Yk N a b c d e f g h i j _) (fE λa b c d e l f g h i j=>Yo N a b c d e l f g h i j K)
def Yq N a g b c h d e f i j (K:KT J):gz N 2069067 (nT a g b c h d e f i j) pR K =
 bG.Z35 N a g b c h d e f i j (λa b c d e f=>K .nrm (k9 a b c d e f)) (λl m=>K .ret (gI l m)):=by kernel_rfl
def Yr N a b c d e f g h i j (K:KT J):=vQ (λk=>bG.Z30 N a b c d e f g h i j k) (Yp N a b c d e f g h i j _) (cJ λa b c d e f g h i j=>Yq N a b c d e f g h i j K)
def Ys N a b c d e f g h i (K:KT J):=vQ (λk=>bG.Z28 N a b c d e f g h i k) (Yj N a b c d e f g h i _) (cJ λa b c d j e f g h i=>Yr N a b c d j e f g h i K)
def Yt N a b c d e f g h i (K:KT J):=vQ (λk=>bG.Z26 N a b c d e f g h i k) (Yi N a b c d e f g h i _) (c6 λa b c d e f g h i=>Ys N a b c d e f g h i K)
def Yu N a b c d e f g h i (K:KT J):=vQ (λk=>bG.Z24 N a b c d e f g h i k (λj l=>K .ret (gI j l))) (Yh N a b c d e f g h i _) (c6 λa b c d e f g h i=>Yt N a b c d e f g h i K)
def Yv N a b c d e f (K:KT J):=vQ (λk=>bG.Z22 N a b c d e f k) (Yg N a b c d e f _) (c6 λa g b c d e f h i=>Yu N a g b c d e f h i K)
def Yw N a b c d e f (K:KT J):=vB 3 pR K (bG.Z20 N a b c d e f (λa b c d e f=>K .nrm (k9 a b c d e f)) (λg h=>K .ret (gI g h))) (Yv N a b c d e f _) (by kernel_rfl)
def Yx N a b c d e f (K:KT J):gz N 29259 (k9 a b c d e f) pR K =
 bG.Z36 N a b c d e f (λa b c d e f=>K .nrm (k9 a b c d e f)):=by kernel_rfl
def Yy N a b c d e f (K:KT J):=vQ (λk=>bG.Z20 N a b c d e f k (λg h=>K .ret (gI g h))) (Yw N a b c d e f _) (cC λa b c d e f=>Yx N a b c d e f K)
def Yz N a b f c d e (K:KT J):=vQ (λk=>bG.Z18 N a b f c d e k (λa b c d e=>K (.exit 2) (iH a b c d e))) (Yf N a b f c d e _) (cC λa b f c d e=>Yy N a b f c d e K)
def YA N (K:KT J):=iV K (bG.Z16L N (λa b c d e=>K (.exit 2) (iH a b c d e)) (λf g=>K .ret (gI f g))) (λa b h c d e k=>bG.Z17 N a b h c d e k (λa b c d e=>K (.exit 2) (iH a b c d e)) (λf g=>K .ret (gI f g))) (λF a b h c d e=>Yz N a b h c d e _) (by kernel_rfl)
def YB N a b c d e f (K:KT J):=vL (k9 a b c d e f) (YA N (jK me K) N a b c d e f) (by kernel_rfl)
def YC N a b f c d e (K:KT J):=vB 2 me K (bG.Z15 N a b f c d e (λa b c d e=>K .nrm (iH a b c d e)) (λg h=>K .ret (gI g h))) (YB N a b f c d e _) (by kernel_rfl)
def YD N a b c d e (K:KT J):=vQ (λk=>bG.Z14 N a b c d e k) (Ye N a b c d e _) (cC λa b f c d e=>YC N a b f c d e K)
def YE N a b c d e (K:KT J):=vB 1 me K (bG.Z12 N a b c d e (λa b c d e=>K .nrm (iH a b c d e)) (λf g=>K .ret (gI f g))) (YD N a b c d e _) (by kernel_rfl)
def YF N a b c d e (K:KT J):gz N 459 (iH a b c d e) me K =
 bG.Z37 N a b c d e (λa b c d e=>K .nrm (iH a b c d e)):=by kernel_rfl
def YG N a b c d e (K:KT J):=vQ (λk=>bG.Z12 N a b c d e k (λf g=>K .ret (gI f g))) (YE N a b c d e _) (bO λa b c d e=>YF N a b c d e K)
def YH N a b c d e (K:KT J):=vQ (λk=>bG.Z10 N a b c d e k (λa=>K (.exit 0) (pT a))) (Yd N a b c d e _) (bO λa b c d e=>YG N a b c d e K)
def YI N (K:KT J):=j8 K (bG.Z8L N (λa=>K (.exit 0) (pT a)) (λb c=>K .ret (gI b c))) (λa d e f g k=>bG.Z9 N a d e f g k (λa=>K (.exit 0) (pT a)) (λb c=>K .ret (gI b c))) (λF a d e f g=>YH N a d e f g _) (by kernel_rfl)
def YJ N a b c d e (K:KT J):=vL (iH a b c d e) (YI N (jK AS K) N a b c d e) (by kernel_rfl)
def YK N a b c d e (K:KT J):=vB 0 AS K (bG.Z7 N a b c d e (λa=>K .nrm (pT a)) (λf g=>K .ret (gI f g))) (YJ N a b c d e _) (by kernel_rfl)
def YL N a b c d (K:KT J):=vQ (λk=>bG.Z6 N a b c d k) (Yc N a b c d _) (bO λa e b c d=>YK N a e b c d K)
def YM N a (K:KT J):gz N 15 (pT a) X4 K =
 bG.Z38 N a (λb c=>K .ret (gI b c)):=by kernel_rfl
def YN N a b c d (K:KT J):=vQ (λk=>bG.Z5 N a b c d k (λe f=>K .ret (gI e f))) (YL N a b c d _) (funext λa=>YM N a K)
def YO N a b c (K:KT J):=vQ (λk=>bG.Z3 N a b c k) (Yb N a b c _) (dn λd a b c=>YN N d a b c K)
def YP N a (K:KT J):=vQ (λk=>bG.Z1 N a k) (Ya N a _) (bZ λb c d=>YO N b c d K)
def YQ(h:bG.Spec):av Tryz.prog 44 AQ :=
 bu Tryz.func44 bq X3 (λN X K=>YP N X.1 K) (by kernel_rfl) λX hb hp=>by obtain⟨a,_⟩:=X;obtain⟨N,h⟩:=h a hb.1 hp;exact⟨N,Eq.trans (by kernel_rfl) (h N (Nat.le_refl N))⟩
def YR:av Tryz.prog 44 AQ:=YQ bG.ok
def HN:List PT:=[⟨.sl 22 (.sl 3 (.int .i64)),false,false⟩]
def nU:kM:=⟨HN,22,.sl 3 (.int .i64),(some λX=>bL.P X.1),λX=>bL.g X.1⟩
def HO:Gm:=aD bi 89 vF
def YS:aw Tryz.prog HO:=(aw.nil).add Hq (by kernel_rfl)
def YT:ab:=⟨[],[],[],[],[]⟩
def YU(a:LL):St:=oX HN (a,())
def HP(a:LL):St:=af [(0,.c (.sn 22 (.sl 3 tI) a none))] [] []
def YV:ab:=⟨[0],[],[],[],[]⟩
def mf(a:LL):St:=af [(3,xo 1000192)] [] [(1000192,(⟨22,.sl 3 tI,a,false,false⟩:ac))]
def vS:ab:=⟨[3],[],[],[],[(⟨false,3,0⟩,1000192)]⟩
def lc(a:LL)(b:Int):St:=af [(3,xo 1000192),(4,xi b)] [] [(1000192,(⟨22,.sl 3 tI,a,false,false⟩:ac))]
def pU:ab:=⟨[3,4],[],[],[],[(⟨false,3,0⟩,1000192)]⟩
def HQ(a b:LL)(c:Int):St:=af [(3,xo 1000192),(4,xi c),(5,xo 1000320)] [] [(1000192,(⟨22,.sl 3 tI,a,false,false⟩:ac)),(1000320,(⟨22,.sl 3 tI,b,false,false⟩:ac))]
def YW:ab:=⟨[3,4,5],[],[⟨⟨false,5,0⟩,30000000,22,.sl 3 (.int .i64),false⟩],[],[(⟨false,3,0⟩,1000192),(⟨false,5,0⟩,1000320)]⟩
def jh(a b:LL)(c d:Int):St:=af [(3,xo 1000192),(4,xi c),(5,xo 1000320),(6,xi d)] [] [(1000192,(⟨22,.sl 3 tI,a,false,false⟩:ac)),(1000320,(⟨22,.sl 3 tI,b,false,false⟩:ac))]
def mg:ab:=⟨[3,4,5,6],[],[],[],[(⟨false,3,0⟩,1000192),(⟨false,5,0⟩,1000320)]⟩
def HR(a b:LL)(c d e:Int):St:=af [(3,xo 1000192),(4,xi c),(5,xo 1000320),(6,xi d),(7,xi e)] [] [(1000192,(⟨22,.sl 3 tI,a,false,false⟩:ac)),(1000320,(⟨22,.sl 3 tI,b,false,false⟩:ac))]
def YX:ab:=⟨[3,4,5,6,7],[],[],[],[(⟨false,3,0⟩,1000192),(⟨false,5,0⟩,1000320)]⟩
def HS(a b:LL)(c d e f:Int):St:=af [(3,xo 1000192),(4,xi c),(5,xo 1000320),(6,xi d),(7,xi e),(8,xi f)] [] [(1000192,(⟨22,.sl 3 tI,a,false,false⟩:ac)),(1000320,(⟨22,.sl 3 tI,b,false,false⟩:ac))]
def YY:ab:=⟨[3,4,5,6,7,8],[],[],[],[(⟨false,3,0⟩,1000192),(⟨false,5,0⟩,1000320)]⟩
def HT(a b:LL)(c d e f g:Int):St:=af [(3,xo 1000192),(4,xi c),(5,xo 1000320),(6,xi d),(7,xi e),(8,xi f),(9,xi g)] [] [(1000192,(⟨22,.sl 3 tI,a,false,false⟩:ac)),(1000320,(⟨22,.sl 3 tI,b,false,false⟩:ac))]
def YZ:ab:=⟨[3,4,5,6,7,8,9],[],[],[],[(⟨false,3,0⟩,1000192),(⟨false,5,0⟩,1000320)]⟩
def vT(a b:LL)(c d e f g h:Int):St:=af [(3,xo 1000192),(4,xi c),(5,xo 1000320),(6,xi d),(7,xi e),(8,xi f),(9,xi g),(10,xi h)] [] [(1000192,(⟨22,.sl 3 tI,a,false,false⟩:ac)),(1000320,(⟨22,.sl 3 tI,b,false,false⟩:ac))]
def HU:ab:=⟨[3,4,5,6,7,8,9,10],[],[],[],[(⟨false,3,0⟩,1000192),(⟨false,5,0⟩,1000320)]⟩
def pV(a:LL)(b:Int):St:=af [(4,xi b),(5,xo 1000320)] [] [(1000320,(⟨22,.sl 3 tI,a,false,false⟩:ac))]
def AT:ab:=⟨[4,5],[],[],[],[(⟨false,5,0⟩,1000320)]⟩
def Y0(a:LL):St:=af [(2,xo 1000128)] [] [(1000128,(⟨22,.sl 3 tI,a,false,false⟩:ac))]
def Y1:ab:=⟨[2],[],[],[],[(⟨false,2,0⟩,1000128)]⟩
def Y2:Nat->Option ab:=az [(4,mg),(3,mg),(2,AT),(1,pU),(0,vS),(1000000,Y1)]
abbrev gA{J:Type}(N n:Nat)(U:St)(l:ab)(K:KT J):Option J:=an HO bm Y2 N (a8 99 (bn Tryz.f45) n) .n U (ay (some l) K)
def Y3 N a (K:KT J):gA N 2 (YU a) YV K =
 bL.Z1 N a (λa=>K .nrm (HP a)):=by kernel_rfl
def Y4 N a (K:KT J):gA N 5 (HP a) vS K =
 bL.Z3 N a (λb=>K .nrm (mf b)):=by kernel_rfl
def Y5 N a (K:KT J):gA N 19 (mf a) pU K =
 bL.Z6 N a (λa b=>K .nrm (lc a b)):=by kernel_rfl
def Y6 N a b (K:KT J):gA N 139 (lc a b) pU K =
 bL.Z10 N a b (λa b=>K .nrm (lc a b)) (λa=>K (.exit 0) (mf a)):=by kernel_rfl
def Y7 N a b (K:KT J):gA N 1099 (lc a b) YW K =
 bL.Z14 N a b (λa c b=>K .nrm (HQ a c b)):=by kernel_rfl
def Y8 N a b c (K:KT J):gA N 4683 (HQ a b c) mg K =
 bL.Z17 N a b c (λa b c d=>K .nrm (jh a b c d)):=by kernel_rfl
def Y9 N c a b d (K:KT J):gA N 35403 (jh c a b d) mg K =
 bL.Z21 N c a b d (λc a b d=>K .nrm (jh c a b d)) (λa b=>K (.exit 2) (pV a b)):=by kernel_rfl
def Za N a b c d (K:KT J):gA N 281163 (jh a b c d) YX K =
 bL.Z25 N a b c d (λa b c d e=>K .nrm (HR a b c d e)):=by kernel_rfl
def Zb N a b c d e (K:KT J):gA N 674379 (HR a b c d e) YY K =
 bL.Z27 N a b c d e (λa b c d e f=>K .nrm (HS a b c d e f)):=by kernel_rfl
def Zc N a b c d e f (K:KT J):gA N 1460811 (HS a b c d e f) YZ K =
 bL.Z29 N a b c d e f (λa b c d e f g=>K .nrm (HT a b c d e f g)):=by kernel_rfl
def Zd N a b c d e f g (K:KT J):gA N 3033675 (HT a b c d e f g) HU K =
 bL.Z31 N a b c d e f g (λa b c d e f g h=>K .nrm (vT a b c d e f g h)):=by kernel_rfl
def Ze N a b c d e f g h (K:KT J):gA N 10373707 (vT a b c d e f g h) HU K =
 bL.Z34 N a b c d e f g h (λa b c d e f g h=>K .nrm (vT a b c d e f g h)) (λa b c d=>K (.exit 4) (jh a b c d)):=by kernel_rfl
def Zf N (K:KT J):=lO K (bL.Z33L N (λa b c d=>K (.exit 4) (jh a b c d))) (λa b c d e f g h k=>bL.Z34 N a b c d e f g h k (λa b c d=>K (.exit 4) (jh a b c d))) (λF a b c d e f g h=>Ze N a b c d e f g h _) (by kernel_rfl)
def Zg N a b c d e f g h (K:KT J):=vL (vT a b c d e f g h) (Zf N (jK mg K) N a b c d e f g h) (by kernel_rfl)
def Zh N a b c d e f g h (K:KT J):=vB 4 mg K (bL.Z32 N a b c d e f g h (λa b c d=>K .nrm (jh a b c d))) (Zg N a b c d e f g h _) (by kernel_rfl)
def Zi N a b c d e f g (K:KT J):=vQ (λk=>bL.Z31 N a b c d e f g k) (Zd N a b c d e f g _) (eX λa b c d e f g h=>Zh N a b c d e f g h K)
def Zj N a b c d e f (K:KT J):=vQ (λk=>bL.Z29 N a b c d e f k) (Zc N a b c d e f _) (eC λa b c d e f g=>Zi N a b c d e f g K)
def Zk N a b c d e (K:KT J):=vQ (λk=>bL.Z27 N a b c d e k) (Zb N a b c d e _) (cC λa b c d e f=>Zj N a b c d e f K)
def Zl N a b c d (K:KT J):=vQ (λk=>bL.Z25 N a b c d k) (Za N a b c d _) (bO λa b c d e=>Zk N a b c d e K)
def Zm N a b c d (K:KT J):=vB 3 mg K (bL.Z23 N a b c d (λa b c d=>K .nrm (jh a b c d))) (Zl N a b c d _) (by kernel_rfl)
def Zn N a b c d (K:KT J):gA N 117323 (jh a b c d) mg K =
 bL.Z35 N a b c d (λa b c d=>K .nrm (jh a b c d)):=by kernel_rfl
def Zo N a b c d (K:KT J):=vQ (λk=>bL.Z23 N a b c d k) (Zm N a b c d _) (dn λa b c d=>Zn N a b c d K)
def Zp N c a b d (K:KT J):=vQ (λk=>bL.Z21 N c a b d k (λa b=>K (.exit 2) (pV a b))) (Y9 N c a b d _) (dn λc a b d=>Zo N c a b d K)
def Zq N (K:KT J):=nA K (bL.Z19L N (λa b=>K (.exit 2) (pV a b))) (λc a b d k=>bL.Z20 N c a b d k (λa b=>K (.exit 2) (pV a b))) (λF c a b d=>Zp N c a b d _) (by kernel_rfl)
def Zr N a b c d (K:KT J):=vL (jh a b c d) (Zq N (jK AT K) N a b c d) (by kernel_rfl)
def Zs N c a b d (K:KT J):=vB 2 AT K (bL.Z18 N c a b d (λa b=>K .nrm (pV a b))) (Zr N c a b d _) (by kernel_rfl)
def Zt N a b c (K:KT J):=vQ (λk=>bL.Z17 N a b c k) (Y8 N a b c _) (dn λa b c d=>Zs N a b c d K)
def Zu N b a (K:KT J):gA N 3659 (pV b a) pU K =
 bL.Z36 N b a (λc a=>K .nrm (lc c a)):=by kernel_rfl
def Zv N c a b (K:KT J):=vQ (λk=>bL.Z16 N c a b k) (Zt N c a b _) (cX λa b=>Zu N a b K)
def Zw N a b (K:KT J):=vQ (λk=>bL.Z14 N a b k) (Y7 N a b _) (bZ λa c b=>Zv N a c b K)
def Zx N a b (K:KT J):=vB 1 pU K (bL.Z12 N a b (λa b=>K .nrm (lc a b))) (Zw N a b _) (by kernel_rfl)
def Zy N a b (K:KT J):gA N 459 (lc a b) pU K =
 bL.Z37 N a b (λa b=>K .nrm (lc a b)):=by kernel_rfl
def Zz N a b (K:KT J):=vQ (λk=>bL.Z12 N a b k) (Zx N a b _) (cX λa b=>Zy N a b K)
def ZA N a b (K:KT J):=vQ (λk=>bL.Z10 N a b k (λa=>K (.exit 0) (mf a))) (Y6 N a b _) (cX λa b=>Zz N a b K)
def ZB N (K:KT J):=uB K (bL.Z8L N (λa=>K (.exit 0) (mf a))) (λa b k=>bL.Z9 N a b k (λa=>K (.exit 0) (mf a))) (λF a b=>ZA N a b _) (by kernel_rfl)
def ZC N a b (K:KT J):=vL (lc a b) (ZB N (jK vS K) N a b) (by kernel_rfl)
def ZD N a b (K:KT J):=vB 0 vS K (bL.Z7 N a b (λa=>K .nrm (mf a))) (ZC N a b _) (by kernel_rfl)
def ZE N a (K:KT J):=vQ (λk=>bL.Z6 N a k) (Y5 N a _) (cX λa b=>ZD N a b K)
def ZF N a (K:KT J):gA N 15 (mf a) YT K =
 bL.Z38 N a (λb=>K .ret (Y0 b)):=by kernel_rfl
def ZG N a (K:KT J):=vQ (λk=>bL.Z5 N a k) (ZE N a _) (funext λa=>ZF N a K)
def ZH N a (K:KT J):=vQ (λk=>bL.Z3 N a k) (Y4 N a _) (funext λb=>ZG N b K)
def ZI N a (K:KT J):=vQ (λk=>bL.Z1 N a k) (Y3 N a _) (funext λa=>ZH N a K)
def ZJ(h:bL.Spec):lE Tryz.prog 45 nU :=
 NG Tryz.func45 bq YS (λN X K=>ZI N X.1 K) (by kernel_rfl) λX hb hp=>by obtain⟨a,_⟩:=X;obtain⟨N,h⟩:=h a hb.1 hp;exact⟨N,Eq.trans (by kernel_rfl) (h N (Nat.le_refl N))⟩
def ZK:lE Tryz.prog 45 nU:=ZJ bL.ok
def HV:aW:=⟨[⟨.pair (.int .i64) (.pair (.int .i64) (.sl 3 (.int .i64))),true,false⟩],[⟨.sl 27 (.pair (.int .i64) (.pair (.int .i64) (.sl 3 (.int .i64)))),false,false⟩,⟨.bool,false,false⟩]⟩
def AU:aK:=⟨HV,none,λX=>((),((cq.g X.1).1,((cq.g X.1).2,())))⟩
def HW:Gm:=aD (addS (aD (aD bi 25 vw) 44 AQ) 45 nU) 46 pM
def ZL:aw Tryz.prog HW:=((((aw.nil).add G3 (by kernel_rfl)).add YR (by kernel_rfl)).addS ZK).add vz (by kernel_rfl)
def ZM:ab:=⟨[],[],[],[],[]⟩
def ZN(a:MT):St:=be HV.ps (a,())
def vU(a b:Int)(c:LI):St:=af [(1,xb 1)] [(1,(27,[yi a,yi b,.sn 3 tI c none]))] []
def HX:ab:=⟨[1],[1],[],[],[]⟩
def HY(a:LM)(b:Bool)(c d:Int)(e:LI):St:=af [(1,xb 1),(4,xo 1000256),(5,xB b)] [(1,(27,[yi c,yi d,.sn 3 tI e none]))] [(1000256,(⟨27,tM 3,a,true,false⟩:ac))]
def ZO:ab:=⟨[1,4,5],[1],[],[],[(⟨false,4,0⟩,1000256)]⟩
def HZ(a:LM)(b c:Int)(d:LI):St:=af [(1,xb 1),(4,xo 1000256)] [(1,(27,[yi b,yi c,.sn 3 tI d none]))] [(1000256,(⟨27,tM 3,a,true,false⟩:ac))]
def ZP:ab:=⟨[1,4],[1],[],[],[(⟨false,4,0⟩,1000256)]⟩
def H0(a:LM)(b:LL)(c d:Int)(e:LI):St:=af [(1,xb 1),(4,xo 1000256),(6,xo 1000384)] [(1,(27,[yi c,yi d,.sn 3 tI e none]))] [(1000256,(⟨27,tM 3,a,true,false⟩:ac)),(1000384,(⟨22,.sl 3 tI,b,false,false⟩:ac))]
def ZQ:ab:=⟨[1,4,6],[1],[⟨⟨false,6,0⟩,30000000,22,.sl 3 (.int .i64),false⟩],[],[(⟨false,4,0⟩,1000256),(⟨false,6,0⟩,1000384)]⟩
def H1(a:LM)(b:LL)(c d e:Int)(f:LI):St:=af [(1,xb 1),(4,xo 1000256),(6,xo 1000384),(7,xi c)] [(1,(27,[yi d,yi e,.sn 3 tI f none]))] [(1000256,(⟨27,tM 3,a,true,false⟩:ac)),(1000384,(⟨22,.sl 3 tI,b,false,false⟩:ac))]
def ZR:ab:=⟨[1,4,6,7],[1],[],[],[(⟨false,4,0⟩,1000256),(⟨false,6,0⟩,1000384)]⟩
def H2(a:LL)(b:LM)(d e f:Int)(g:LI):St:=af [(1,xb 1),(4,.c (.sn 27 (tM 3) b none)),(6,xo 1000384),(7,xi d)] [(1,(27,[yi e,yi f,.sn 3 tI g none]))] [(1000384,(⟨22,.sl 3 tI,a,false,false⟩:ac))]
def ZS:ab:=⟨[1,4,6,7],[1],[],[(⟨false,4,0⟩,27,.pair (.int .i64) (.pair (.int .i64) (.sl 3 (.int .i64))))],[(⟨false,6,0⟩,1000384)]⟩
def AV(a:LL)(b d:Int)(e:LI):St:=af [(1,xb 1),(6,.c (.sn 22 (.sl 3 tI) a none))] [(1,(27,[yi b,yi d,.sn 3 tI e none]))] []
def H3:ab:=⟨[1,6],[1],[],[(⟨false,6,0⟩,22,.sl 3 (.int .i64))],[]⟩
def H4(a:LL)(b d:Int)(e:LI):St:=af [(1,xb 1),(6,.c (.sn 22 (.sl 3 tI) a none))] [(1,(27,[yi b,yi d,.sn 3 tI e none]))] []
def ZT:ab:=⟨[1,6],[1],[],[],[]⟩
def H5(a:LL)(b c:Int)(d:LI):St:=af [(1,xb 1),(6,xo 1000384)] [(1,(27,[yi b,yi c,.sn 3 tI d none]))] [(1000384,(⟨22,.sl 3 tI,a,false,false⟩:ac))]
def ZU:ab:=⟨[1,6],[1],[],[],[(⟨false,6,0⟩,1000384)]⟩
def H6(a:LL)(b:LM)(c d:Int)(e:LI):St:=af [(1,xb 1),(6,xo 1000384),(8,xo 1000512)] [(1,(27,[yi c,yi d,.sn 3 tI e none]))] [(1000384,(⟨22,.sl 3 tI,a,false,false⟩:ac)),(1000512,(⟨27,tM 3,b,true,false⟩:ac))]
def ZV:ab:=⟨[1,6,8],[1],[],[],[(⟨false,6,0⟩,1000384),(⟨false,8,0⟩,1000512)]⟩
def vV(a:LL)(b:LM)(c d e:Int)(f:LI):St:=af [(1,xb 1),(6,xo 1000384),(8,xo 1000512),(9,xi c)] [(1,(27,[yi d,yi e,.sn 3 tI f none]))] [(1000384,(⟨22,.sl 3 tI,a,false,false⟩:ac)),(1000512,(⟨27,tM 3,b,true,false⟩:ac))]
def H7:ab:=⟨[1,6,8,9],[1],[],[],[(⟨false,6,0⟩,1000384),(⟨false,8,0⟩,1000512)]⟩
def sO(a:LM):St:=af [(8,xo 1000512)] [] [(1000512,(⟨27,tM 3,a,true,false⟩:ac))]
def AW:ab:=⟨[8],[],[],[],[(⟨false,8,0⟩,1000512)]⟩
def sP(a:LM)(b:Bool):St:=af [(2,xo 1000128),(3,xB b)] [] [(1000128,(⟨27,tM 3,a,true,false⟩:ac))]
def ZW:ab:=⟨[2,3],[],[⟨⟨false,2,0⟩,30000000,27,.pair (.int .i64) (.pair (.int .i64) (.sl 3 (.int .i64))),true⟩],[],[(⟨false,2,0⟩,1000128)]⟩
def ZX:Nat->Option ab:=az [(0,H3),(2,AW),(1000000,ZW)]
abbrev ji{J:Type}(N n:Nat)(U:St)(l:ab)(K:KT J):Option J:=an HW bm ZX N (a8 99 (bn Tryz.f14) n) .n U (ay (some l) K)
def ZY N a (K:KT J):ji N 2 (ZN a) HX K =
 cq.Z1 N a (λb c d=>K .nrm (vU b c d)):=by kernel_rfl
def ZZ N a b c (K:KT J):ji N 5 (vU a b c) HX K =
 cq.Z3 N a b c (λa b c=>K .nrm (vU a b c)) (λd e=>K .ret (sP d e)):=by kernel_rfl
def f14t5 N a b c (K:KT J):ji N 11 (vU a b c) ZO K =
 cq.Z5 N a b c (λd e a b c=>K .nrm (HY d e a b c)):=by kernel_rfl
def f14t7 N a e b c d (K:KT J):ji N 23 (HY a e b c d) ZP K =
 cq.Z7 N a e b c d (λa b c d=>K .nrm (HZ a b c d)) (λf g=>K .ret (sP f g)):=by kernel_rfl
def f14t9 N a b c d (K:KT J):ji N 47 (HZ a b c d) ZQ K =
 cq.Z9 N a b c d (λa e b c d=>K .nrm (H0 a e b c d)):=by kernel_rfl
def f14t12 N a b c d e (K:KT J):ji N 159 (H0 a b c d e) ZR K =
 cq.Z12 N a b c d e (λa b f c d e=>K .nrm (H1 a b f c d e)):=by kernel_rfl
def f14t15 N a e f b c d (K:KT J):ji N 607 (H2 a e f b c d) ZS K =
 cq.Z15 N a e f b c d (λa e f b c d=>K .nrm (H2 a e f b c d)) (λa b c d=>K (.exit 0) (AV a b c d)):=by kernel_rfl
def f14t14L N (K:KT J):=iV K (cq.Z14L N (λa b c d=>K (.exit 0) (AV a b c d))) (λa e f b c d k=>cq.Z15 N a e f b c d k (λa b c d=>K (.exit 0) (AV a b c d))) (λF a e f b c d=>f14t15 N a e f b c d _) (by kernel_rfl)
def f14t14 N a b c d e f (K:KT J):=vL (H1 a b c d e f) (f14t14L N (jK H3 K) N b a c d e f) (by kernel_rfl)
def f14t13 N e a f b c d (K:KT J):=vB 0 ZT K (cq.Z13 N e a f b c d (λa b c d=>K .nrm (H4 a b c d))) (f14t14 N e a f b c d _) (by kernel_rfl)
def f14t11 N a b c d e (K:KT J):=vQ (λk=>cq.Z12 N a b c d e k) (f14t12 N a b c d e _) (cC λa b f c d e=>f14t13 N a b f c d e K)
def f14t17 N a b c d (K:KT J):ji N 191 (H4 a b c d) ZU K =
 cq.Z17 N a b c d (λa b c d=>K .nrm (H5 a b c d)):=by kernel_rfl
def f14t19 N a b c d (K:KT J):ji N 383 (H5 a b c d) ZV K =
 cq.Z19 N a b c d (λa e b c d=>K .nrm (H6 a e b c d)):=by kernel_rfl
def f14t22 N a b c d e (K:KT J):ji N 1279 (H6 a b c d e) H7 K =
 cq.Z22 N a b c d e (λa b f c d e=>K .nrm (vV a b f c d e)):=by kernel_rfl
def f14t25 N b a c d e f (K:KT J):ji N 4863 (vV b a c d e f) H7 K =
 cq.Z25 N b a c d e f (λb a c d e f=>K .nrm (vV b a c d e f)) (λa=>K (.exit 2) (sO a)):=by kernel_rfl
def f14t24L N (K:KT J):=iV K (cq.Z24L N (λa=>K (.exit 2) (sO a))) (λb a c d e f k=>cq.Z25 N b a c d e f k (λa=>K (.exit 2) (sO a))) (λF b a c d e f=>f14t25 N b a c d e f _) (by kernel_rfl)
def f14t24 N a b c d e f (K:KT J):=vL (vV a b c d e f) (f14t24L N (jK AW K) N a b c d e f) (by kernel_rfl)
def f14t23 N b a c d e f (K:KT J):=vB 2 AW K (cq.Z23 N b a c d e f (λa=>K .nrm (sO a))) (f14t24 N b a c d e f _) (by kernel_rfl)
def f14t21 N a b c d e (K:KT J):=vQ (λk=>cq.Z22 N a b c d e k) (f14t22 N a b c d e _) (cC λa b f c d e=>f14t23 N a b f c d e K)
def f14t26 N a (K:KT J):ji N 1023 (sO a) ZM K =
 cq.Z26 N a (λb c=>K .ret (sP b c)):=by kernel_rfl
def f14t20 N b a c d e (K:KT J):=vQ (λk=>cq.Z21 N b a c d e k) (f14t21 N b a c d e _) (funext λa=>f14t26 N a K)
def f14t18 N a b c d (K:KT J):=vQ (λk=>cq.Z19 N a b c d k) (f14t19 N a b c d _) (bO λa e b c d=>f14t20 N a e b c d K)
def f14t16 N a b c d (K:KT J):=vQ (λk=>cq.Z17 N a b c d k) (f14t17 N a b c d _) (dn λa b c d=>f14t18 N a b c d K)
def f14t10 N e a b c d (K:KT J):=vQ (λk=>cq.Z11 N e a b c d k) (f14t11 N e a b c d _) (dn λa b c d=>f14t16 N a b c d K)
def f14t8 N a b c d (K:KT J):=vQ (λk=>cq.Z9 N a b c d k) (f14t9 N a b c d _) (bO λa e b c d=>f14t10 N a e b c d K)
def f14t6 N a e b c d (K:KT J):=vQ (λk=>cq.Z7 N a e b c d k (λf g=>K .ret (sP f g))) (f14t7 N a e b c d _) (dn λa b c d=>f14t8 N a b c d K)
def f14t4 N a b c (K:KT J):=vQ (λk=>cq.Z5 N a b c k) (f14t5 N a b c _) (bO λd e a b c=>f14t6 N d e a b c K)
def f14t2 N a b c (K:KT J):=vQ (λk=>cq.Z3 N a b c k (λd e=>K .ret (sP d e))) (ZZ N a b c _) (bZ λa b c=>f14t4 N a b c K)
def f14t0 N a (K:KT J):=vQ (λk=>cq.Z1 N a k) (ZY N a _) (bZ λb c d=>f14t2 N b c d K)
def f14ok(h:cq.Spec):av Tryz.prog 14 AU :=
 bu Tryz.func14 bq ZL (λN X K=>f14t0 N X.1 K) (by kernel_rfl) λX hb hp=>by obtain⟨a,_⟩:=X;obtain⟨N,h⟩:=h a hb.1;exact⟨N,Eq.trans (by kernel_rfl) (h N (Nat.le_refl N))⟩
def e14ok:av Tryz.prog 14 AU:=f14ok cq.ok
def H8:aW:=⟨[⟨.pair (.int .i64) (.pair (.int .i64) (.sl 3 (.int .i64))),true,false⟩,⟨.int .i64,false,false⟩],[⟨.bool,false,false⟩]⟩
def AX:aK:=⟨H8,(some λX=>cU.P X.1 X.2.1),λX=>((),((cU.g X.1 X.2.1),()))⟩
def H9:Gm:=aD (aD bi 105 jG) 106 sE
def f85GOk:aw Tryz.prog H9:=((aw.nil).add kW (by kernel_rfl)).add Au (by kernel_rfl)
def f85lE:ab:=⟨[],[],[],[],[]⟩
def f85s0(a:MT)(b:Int):St:=be H8.ps (a,(b,()))
def Ia(a b c:Int)(d:LI):St:=af [(1,xi a),(2,xb 2)] [(2,(27,[yi b,yi c,.sn 3 tI d none]))] []
def f85l1:ab:=⟨[1,2],[2],[],[],[]⟩
def jj(a b c d:Int)(e:LI):St:=af [(1,xi a),(2,xb 2),(5,xi b)] [(2,(27,[yi c,yi d,.sn 3 tI e none]))] []
def mh:ab:=⟨[1,2,5],[2],[],[],[]⟩
def vW(a b c d e:Int)(f:LI):St:=af [(1,xi a),(2,xb 2),(5,xi b),(6,xi c)] [(2,(27,[yi d,yi e,.sn 3 tI f none]))] []
def Ib:ab:=⟨[1,2,5,6],[2],[],[],[]⟩
def pW :St:=af [] [] []
def AY:ab:=⟨[],[],[],[],[]⟩
def jI(a:Bool):St:=af [(4,xB a)] [] []
def f85l5:ab:=⟨[4],[],[],[],[]⟩
def f85B:Nat->Option ab:=az [(2,mh),(1,mh),(0,AY),(1000000,f85l5)]
abbrev nV{J:Type}(N n:Nat)(U:St)(l:ab)(K:KT J):Option J:=an H9 bm f85B N (a8 99 (bn Tryz.f85) n) .n U (ay (some l) K)
def f85t1 N b a (K:KT J):nV N 2 (f85s0 b a) f85l1 K =
 cU.Z1 N b a (λa c d e=>K .nrm (Ia a c d e)):=by kernel_rfl
def f85t4 N a b c d (K:KT J):nV N 9 (Ia a b c d) mh K =
 cU.Z4 N a b c d (λa e b c d=>K .nrm (jj a e b c d)):=by kernel_rfl
def f85t8 N a b c d e (K:KT J):nV N 69 (jj a b c d e) mh K =
 cU.Z8 N a b c d e (λa b c d e=>K .nrm (jj a b c d e)) (K (.exit 0) pW):=by kernel_rfl
def f85t12 N a b c d e (K:KT J):nV N 549 (jj a b c d e) Ib K =
 cU.Z12 N a b c d e (λa b f c d e=>K .nrm (vW a b f c d e)):=by kernel_rfl
def f85t15 N a b f c d e (K:KT J):nV N 2341 (vW a b f c d e) Ib K =
 cU.Z15 N a b f c d e (λa b f c d e=>K .nrm (vW a b f c d e)) (λa b c d e=>K (.exit 2) (jj a b c d e)) (λg=>K .ret (jI g)):=by kernel_rfl
def f85t14L N (K:KT J):=iV K (cU.Z14L N (λa b c d e=>K (.exit 2) (jj a b c d e)) (λf=>K .ret (jI f))) (λa b g c d e k=>cU.Z15 N a b g c d e k (λa b c d e=>K (.exit 2) (jj a b c d e)) (λf=>K .ret (jI f))) (λF a b g c d e=>f85t15 N a b g c d e _) (by kernel_rfl)
def f85t14 N a b c d e f (K:KT J):=vL (vW a b c d e f) (f85t14L N (jK mh K) N a b c d e f) (by kernel_rfl)
def f85t13 N a b f c d e (K:KT J):=vB 2 mh K (cU.Z13 N a b f c d e (λa b c d e=>K .nrm (jj a b c d e)) (λg=>K .ret (jI g))) (f85t14 N a b f c d e _) (by kernel_rfl)
def f85t11 N a b c d e (K:KT J):=vQ (λk=>cU.Z12 N a b c d e k) (f85t12 N a b c d e _) (cC λa b f c d e=>f85t13 N a b f c d e K)
def f85t10 N a b c d e (K:KT J):=vB 1 mh K (cU.Z10 N a b c d e (λa b c d e=>K .nrm (jj a b c d e)) (λf=>K .ret (jI f))) (f85t11 N a b c d e _) (by kernel_rfl)
def f85t16 N a b c d e (K:KT J):nV N 229 (jj a b c d e) mh K =
 cU.Z16 N a b c d e (λa b c d e=>K .nrm (jj a b c d e)):=by kernel_rfl
def f85t9 N a b c d e (K:KT J):=vQ (λk=>cU.Z10 N a b c d e k (λf=>K .ret (jI f))) (f85t10 N a b c d e _) (bO λa b c d e=>f85t16 N a b c d e K)
def f85t7 N a b c d e (K:KT J):=vQ (λk=>cU.Z8 N a b c d e k (K (.exit 0) pW)) (f85t8 N a b c d e _) (bO λa b c d e=>f85t9 N a b c d e K)
def f85t6L N (K:KT J):=j8 K (cU.Z6L N (K (.exit 0) pW) (λa=>K .ret (jI a))) (λb c d e f k=>cU.Z7 N b c d e f k (K (.exit 0) pW) (λa=>K .ret (jI a))) (λF b c d e f=>f85t7 N b c d e f _) (by kernel_rfl)
def f85t6 N a b c d e (K:KT J):=vL (jj a b c d e) (f85t6L N (jK AY K) N a b c d e) (by kernel_rfl)
def f85t5 N a b c d e (K:KT J):=vB 0 AY K (cU.Z5 N a b c d e (K .nrm pW) (λf=>K .ret (jI f))) (f85t6 N a b c d e _) (by kernel_rfl)
def f85t3 N a b c d (K:KT J):=vQ (λk=>cU.Z4 N a b c d k) (f85t4 N a b c d _) (bO λa e b c d=>f85t5 N a e b c d K)
def f85t17 N  (K:KT J):nV N 7 pW f85lE K =
 cU.Z17 N (λa=>K .ret (jI a)):=by kernel_rfl
def f85t2 N a b c d (K:KT J):=vQ (λk=>cU.Z3 N a b c d k (λe=>K .ret (jI e))) (f85t3 N a b c d _) (f85t17 N K)
def f85t0 N b a (K:KT J):=vQ (λk=>cU.Z1 N b a k) (f85t1 N b a _) (dn λa c d e=>f85t2 N a c d e K)
def f85ok(h:cU.Spec):av Tryz.prog 85 AX :=
 bu Tryz.func85 bq f85GOk (λN X K=>f85t0 N X.1 X.2.1 K) (by kernel_rfl) λX hb hp=>by obtain⟨a,b,_⟩:=X;obtain⟨N,h⟩:=h a b hb.1 hp;exact⟨N,Eq.trans (by kernel_rfl) (h N (Nat.le_refl N))⟩
def e85ok:av Tryz.prog 85 AX:=f85ok cU.ok
def Ic:aW:=⟨[⟨.pair (.int .i64) (.pair (.int .i64) (.sl 3 (.int .i64))),true,false⟩],[⟨.sl 27 (.pair (.int .i64) (.pair (.int .i64) (.sl 3 (.int .i64)))),false,false⟩,⟨.bool,false,false⟩]⟩
def AZ:aK:=⟨Ic,none,λX=>((),((eo.g X.1).1,((eo.g X.1).2,())))⟩
def Id:Gm:=aD (aD (aD bi 14 AU) 84 AB) 85 AX
def f40GOk:aw Tryz.prog Id:=(((aw.nil).add e14ok (by kernel_rfl)).add Vd (by kernel_rfl)).add e85ok (by kernel_rfl)
def f40lE:ab:=⟨[],[],[],[],[]⟩
def f40s0(a:MT):St:=be Ic.ps (a,())
def Ie(a b:Int)(c:LI):St:=af [(1,xb 1)] [(1,(27,[yi a,yi b,.sn 3 tI c none]))] []
def f40l1:ab:=⟨[1],[1],[],[],[]⟩
def nW(a:LM)(b:Bool):St:=af [(4,xo 1000256),(5,xB b)] [] [(1000256,(⟨27,tM 3,a,true,false⟩:ac))]
def vX:ab:=⟨[4,5],[],[],[],[(⟨false,4,0⟩,1000256)]⟩
def vY(a:LM)(b:Bool)(c:Int):St:=af [(4,xo 1000256),(5,xB b),(6,xi c)] [] [(1000256,(⟨27,tM 3,a,true,false⟩:ac))]
def If:ab:=⟨[4,5,6],[],[],[],[(⟨false,4,0⟩,1000256)]⟩
def f40s4(a:LM)(b:Bool):St:=af [(2,xo 1000128),(3,xB b)] [] [(1000128,(⟨27,tM 3,a,true,false⟩:ac))]
def f40l4:ab:=⟨[2,3],[],[⟨⟨false,2,0⟩,30000000,27,.pair (.int .i64) (.pair (.int .i64) (.sl 3 (.int .i64))),true⟩],[],[(⟨false,2,0⟩,1000128)]⟩
def f40B:Nat->Option ab:=az [(0,vX),(1000000,f40l4)]
abbrev sQ{J:Type}(N n:Nat)(U:St)(l:ab)(K:KT J):Option J:=an Id bm f40B N (a8 99 (bn Tryz.f40) n) .n U (ay (some l) K)
def f40t1 N a (K:KT J):sQ N 2 (f40s0 a) f40l1 K =
 eo.Z1 N a (λb c d=>K .nrm (Ie b c d)):=by kernel_rfl
def f40t3 N a b c (K:KT J):sQ N 5 (Ie a b c) vX K =
 eo.Z3 N a b c (λd e=>K .nrm (nW d e)):=by kernel_rfl
def f40t6 N a b (K:KT J):sQ N 19 (nW a b) If K =
 eo.Z6 N a b (λa b c=>K .nrm (vY a b c)):=by kernel_rfl
def f40t9 N a b c (K:KT J):sQ N 75 (vY a b c) If K =
 eo.Z9 N a b c (λa b c=>K .nrm (vY a b c)) (λa b=>K (.exit 0) (nW a b)):=by kernel_rfl
def f40t8L N (K:KT J):=gS K (eo.Z8L N (λa b=>K (.exit 0) (nW a b))) (λa b c k=>eo.Z9 N a b c k (λa b=>K (.exit 0) (nW a b))) (λF a b c=>f40t9 N a b c _) (by kernel_rfl)
def f40t8 N a b c (K:KT J):=vL (vY a b c) (f40t8L N (jK vX K) N a b c) (by kernel_rfl)
def f40t7 N a b c (K:KT J):=vB 0 vX K (eo.Z7 N a b c (λa b=>K .nrm (nW a b))) (f40t8 N a b c _) (by kernel_rfl)
def f40t5 N a b (K:KT J):=vQ (λk=>eo.Z6 N a b k) (f40t6 N a b _) (bZ λa b c=>f40t7 N a b c K)
def f40t10 N a b (K:KT J):sQ N 15 (nW a b) f40lE K =
 eo.Z10 N a b (λc d=>K .ret (f40s4 c d)):=by kernel_rfl
def f40t4 N a b (K:KT J):=vQ (λk=>eo.Z5 N a b k) (f40t5 N a b _) (cX λa b=>f40t10 N a b K)
def f40t2 N a b c (K:KT J):=vQ (λk=>eo.Z3 N a b c k) (f40t3 N a b c _) (cX λd e=>f40t4 N d e K)
def f40t0 N a (K:KT J):=vQ (λk=>eo.Z1 N a k) (f40t1 N a _) (bZ λb c d=>f40t2 N b c d K)
def f40ok(h:eo.Spec):av Tryz.prog 40 AZ :=
 bu Tryz.func40 bq f40GOk (λN X K=>f40t0 N X.1 K) (by kernel_rfl) λX hb hp=>by obtain⟨a,_⟩:=X;obtain⟨N,h⟩:=h a hb.1;exact⟨N,Eq.trans (by kernel_rfl) (h N (Nat.le_refl N))⟩
def e40ok:av Tryz.prog 40 AZ:=f40ok eo.ok
def Ig:aW:=⟨[⟨.pair (.int .i64) (.pair (.int .i64) (.sl 3 (.int .i64))),true,false⟩,⟨.sl 3 (.int .i64),false,false⟩],[⟨.int .i64,false,false⟩]⟩
def A3:aK:=⟨Ig,(some λX=>cN.P X.1 X.2.1),λX=>((),((cN.g X.1 X.2.1),()))⟩
def Ih:Gm:=aD bi 105 jG
def f74GOk:aw Tryz.prog Ih:=(aw.nil).add kW (by kernel_rfl)
def f74lE:ab:=⟨[],[],[],[],[]⟩
def f74s0(a:MT)(b:LI):St:=be Ig.ps (a,(b,()))
def Ii(a:LI)(b d:Int)(e:LI):St:=af [(1,.c (.sn 3 tI a none)),(2,xb 2)] [(2,(27,[yi b,yi d,.sn 3 tI e none]))] []
def f74l1:ab:=⟨[1,2],[2],[],[],[]⟩
def Ij(a:LI)(b d e:Int)(f:LI):St:=af [(1,.c (.sn 3 tI a none)),(2,xb 2),(5,xi b)] [(2,(27,[yi d,yi e,.sn 3 tI f none]))] []
def f74l2:ab:=⟨[1,2,5],[2],[],[],[]⟩
def jk(a:LI)(b d e f:Int)(g:LI):St:=af [(1,.c (.sn 3 tI a none)),(2,xb 2),(5,xi b),(6,xi d)] [(2,(27,[yi e,yi f,.sn 3 tI g none]))] []
def mi:ab:=⟨[1,2,5,6],[2],[],[],[]⟩
def vZ(a:LI)(b d e f g:Int)(h:LI):St:=af [(1,.c (.sn 3 tI a none)),(2,xb 2),(5,xi b),(6,xi d),(7,xi e)] [(2,(27,[yi f,yi g,.sn 3 tI h none]))] []
def Ik:ab:=⟨[1,2,5,6,7],[2],[],[],[]⟩
def pX(a:Int):St:=af [(5,xi a)] [] []
def A4:ab:=⟨[5],[],[],[],[]⟩
def f74s6(a:Int):St:=af [(4,xi a)] [] []
def f74l6:ab:=⟨[4],[],[],[],[]⟩
def f74B:Nat->Option ab:=az [(2,mi),(1,mi),(0,A4),(1000000,f74l6)]
abbrev mj{J:Type}(N n:Nat)(U:St)(l:ab)(K:KT J):Option J:=an Ih bm f74B N (a8 99 (bn Tryz.f74) n) .n U (ay (some l) K)
def f74t1 N b a (K:KT J):mj N 2 (f74s0 b a) f74l1 K =
 cN.Z1 N b a (λa c d e=>K .nrm (Ii a c d e)):=by kernel_rfl
def f74t3 N a b c d (K:KT J):mj N 5 (Ii a b c d) f74l2 K =
 cN.Z3 N a b c d (λa e b c d=>K .nrm (Ij a e b c d)):=by kernel_rfl
def f74t6 N a b c d e (K:KT J):mj N 19 (Ij a b c d e) mi K =
 cN.Z6 N a b c d e (λa b f c d e=>K .nrm (jk a b f c d e)):=by kernel_rfl
def f74t10 N b a c d e f (K:KT J):mj N 139 (jk b a c d e f) mi K =
 cN.Z10 N b a c d e f (λb a c d e f=>K .nrm (jk b a c d e f)) (λa=>K (.exit 0) (pX a)):=by kernel_rfl
def f74t14 N a b c d e f (K:KT J):mj N 1099 (jk a b c d e f) Ik K =
 cN.Z14 N a b c d e f (λa b c g d e f=>K .nrm (vZ a b c g d e f)):=by kernel_rfl
def f74t17 N a b c g d e f (K:KT J):mj N 4683 (vZ a b c g d e f) Ik K =
 cN.Z17 N a b c g d e f (λa b c g d e f=>K .nrm (vZ a b c g d e f)) (λa b c d e f=>K (.exit 2) (jk a b c d e f)):=by kernel_rfl
def f74t16L N (K:KT J):=nB K (cN.Z16L N (λa b c d e f=>K (.exit 2) (jk a b c d e f))) (λa b c g d e f k=>cN.Z17 N a b c g d e f k (λa b c d e f=>K (.exit 2) (jk a b c d e f))) (λF a b c g d e f=>f74t17 N a b c g d e f _) (by kernel_rfl)
def f74t16 N a b c d e f g (K:KT J):=vL (vZ a b c d e f g) (f74t16L N (jK mi K) N a b c d e f g) (by kernel_rfl)
def f74t15 N a b c g d e f (K:KT J):=vB 2 mi K (cN.Z15 N a b c g d e f (λa b c d e f=>K .nrm (jk a b c d e f))) (f74t16 N a b c g d e f _) (by kernel_rfl)
def f74t13 N a b c d e f (K:KT J):=vQ (λk=>cN.Z14 N a b c d e f k) (f74t14 N a b c d e f _) (eC λa b c g d e f=>f74t15 N a b c g d e f K)
def f74t12 N a b c d e f (K:KT J):=vB 1 mi K (cN.Z12 N a b c d e f (λa b c d e f=>K .nrm (jk a b c d e f))) (f74t13 N a b c d e f _) (by kernel_rfl)
def f74t18 N a b c d e f (K:KT J):mj N 459 (jk a b c d e f) mi K =
 cN.Z18 N a b c d e f (λa b c d e f=>K .nrm (jk a b c d e f)):=by kernel_rfl
def f74t11 N a b c d e f (K:KT J):=vQ (λk=>cN.Z12 N a b c d e f k) (f74t12 N a b c d e f _) (cC λa b c d e f=>f74t18 N a b c d e f K)
def f74t9 N b a c d e f (K:KT J):=vQ (λk=>cN.Z10 N b a c d e f k (λa=>K (.exit 0) (pX a))) (f74t10 N b a c d e f _) (cC λb a c d e f=>f74t11 N b a c d e f K)
def f74t8L N (K:KT J):=iV K (cN.Z8L N (λa=>K (.exit 0) (pX a))) (λb a c d e f k=>cN.Z9 N b a c d e f k (λa=>K (.exit 0) (pX a))) (λF b a c d e f=>f74t9 N b a c d e f _) (by kernel_rfl)
def f74t8 N a b c d e f (K:KT J):=vL (jk a b c d e f) (f74t8L N (jK A4 K) N a b c d e f) (by kernel_rfl)
def f74t7 N b a c d e f (K:KT J):=vB 0 A4 K (cN.Z7 N b a c d e f (λa=>K .nrm (pX a))) (f74t8 N b a c d e f _) (by kernel_rfl)
def f74t5 N a b c d e (K:KT J):=vQ (λk=>cN.Z6 N a b c d e k) (f74t6 N a b c d e _) (cC λa b f c d e=>f74t7 N a b f c d e K)
def f74t19 N a (K:KT J):mj N 15 (pX a) f74lE K =
 cN.Z19 N a (λb=>K .ret (f74s6 b)):=by kernel_rfl
def f74t4 N b a c d e (K:KT J):=vQ (λk=>cN.Z5 N b a c d e k) (f74t5 N b a c d e _) (funext λa=>f74t19 N a K)
def f74t2 N a b c d (K:KT J):=vQ (λk=>cN.Z3 N a b c d k) (f74t3 N a b c d _) (bO λa e b c d=>f74t4 N a e b c d K)
def f74t0 N b a (K:KT J):=vQ (λk=>cN.Z1 N b a k) (f74t1 N b a _) (dn λa c d e=>f74t2 N a c d e K)
def f74ok(h:cN.Spec):av Tryz.prog 74 A3 :=
 bu Tryz.func74 bq f74GOk (λN X K=>f74t0 N X.1 X.2.1 K) (by kernel_rfl) λX hb hp=>by obtain⟨a,b,_⟩:=X;obtain⟨N,h⟩:=h a b hb.1 hb.2.1 hp;exact⟨N,Eq.trans (by kernel_rfl) (h N (Nat.le_refl N))⟩
def e74ok:av Tryz.prog 74 A3:=f74ok cN.ok
def Il:aW:=⟨[⟨.int .i64,false,false⟩],[⟨.str,false,false⟩]⟩
def A5:aK:=⟨Il,(some λX=>cO.P X.1),λX=>((),((cO.g X.1),()))⟩
def Im:Gm:=bi
def f108GOk:aw Tryz.prog Im:=aw.nil
def f108lE:ab:=⟨[],[],[],[],[]⟩
def f108s0(a:Int):St:=be Il.ps (a,())
def In(a:Int):St:=af [(0,xi a)] [] []
def f108l1:ab:=⟨[0],[],[],[],[]⟩
def nX(a:List Int)(b:Int):St:=af [(0,xi b),(3,xo 1000192)] [] [(1000192,(⟨5,.int .u8,a,true,false⟩:ac))]
def v7:ab:=⟨[0,3],[],[],[],[(⟨false,3,0⟩,1000192)]⟩
def v8(a:List Int)(b c:Int):St:=af [(0,xi b),(3,xo 1000192),(4,xi c)] [] [(1000192,(⟨5,.int .u8,a,true,false⟩:ac))]
def Io:ab:=⟨[0,3,4],[],[],[],[(⟨false,3,0⟩,1000192)]⟩
def Ip(a b:List Int)(c:Int):St:=af [(0,xi c),(3,xo 1000192),(6,xo 1000384)] [] [(1000192,(⟨5,.int .u8,a,true,false⟩:ac)),(1000384,(⟨5,.int .u8,b,true,false⟩:ac))]
def f108l4:ab:=⟨[0,3,6],[],[],[],[(⟨false,3,0⟩,1000192),(⟨false,6,0⟩,1000384)]⟩
def Iq(a b:List Int):St:=af [(3,xo 1000192),(6,xo 1000384)] [] [(1000192,(⟨5,.int .u8,a,true,false⟩:ac)),(1000384,(⟨5,.int .u8,b,true,false⟩:ac))]
def f108l5:ab:=⟨[3,6],[],[],[],[(⟨false,3,0⟩,1000192),(⟨false,6,0⟩,1000384)]⟩
def wa(a b:List Int)(c:Int):St:=af [(3,xo 1000192),(6,xo 1000384),(7,xi c)] [] [(1000192,(⟨5,.int .u8,a,true,false⟩:ac)),(1000384,(⟨5,.int .u8,b,true,false⟩:ac))]
def Ir:ab:=⟨[3,6,7],[],[],[],[(⟨false,3,0⟩,1000192),(⟨false,6,0⟩,1000384)]⟩
def sR(a:List Int):St:=af [(6,xo 1000384)] [] [(1000384,(⟨5,.int .u8,a,true,false⟩:ac))]
def A6:ab:=⟨[6],[],[],[],[(⟨false,6,0⟩,1000384)]⟩
def f108s8(a:ByteArray):St:=af [(2,.c (.str a))] [] []
def f108l8:ab:=⟨[2],[],[],[],[]⟩
def f108B:Nat->Option ab:=az [(0,v7),(2,A6),(1000000,f108l8)]
abbrev ld{J:Type}(N n:Nat)(U:St)(l:ab)(K:KT J):Option J:=an Im bm f108B N (a8 99 (bn Tryz.f108) n) .n U (ay (some l) K)
def f108t1 N a (K:KT J):ld N 2 (f108s0 a) f108l1 K =
 cO.Z1 N a (λa=>K .nrm (In a)):=by kernel_rfl
def f108t3 N a (K:KT J):ld N 5 (In a) v7 K =
 cO.Z3 N a (λb a=>K .nrm (nX b a)):=by kernel_rfl
def f108t5 N a b (K:KT J):ld N 11 (nX a b) Io K =
 cO.Z5 N a b (λa b c=>K .nrm (v8 a b c)):=by kernel_rfl
def f108t9 N a b c (K:KT J):ld N 71 (v8 a b c) Io K =
 cO.Z9 N a b c (λa b c=>K .nrm (v8 a b c)) (λa b=>K (.exit 0) (nX a b)):=by kernel_rfl
def f108t8L N (K:KT J):=gS K (cO.Z8L N (λa b=>K (.exit 0) (nX a b))) (λa b c k=>cO.Z9 N a b c k (λa b=>K (.exit 0) (nX a b))) (λF a b c=>f108t9 N a b c _) (by kernel_rfl)
def f108t8 N a b c (K:KT J):=vL (v8 a b c) (f108t8L N (jK v7 K) N a b c) (by kernel_rfl)
def f108t7 N a b c (K:KT J):=vB 0 v7 K (cO.Z7 N a b c (λa b=>K .nrm (nX a b))) (f108t8 N a b c _) (by kernel_rfl)
def f108t11 N a b (K:KT J):ld N 47 (nX a b) f108l4 K =
 cO.Z11 N a b (λa c b=>K .nrm (Ip a c b)):=by kernel_rfl
def f108t13 N a b c (K:KT J):ld N 95 (Ip a b c) f108l5 K =
 cO.Z13 N a b c (λa b=>K .nrm (Iq a b)):=by kernel_rfl
def f108t16 N a b (K:KT J):ld N 319 (Iq a b) Ir K =
 cO.Z16 N a b (λa b c=>K .nrm (wa a b c)):=by kernel_rfl
def f108t19 N b a c (K:KT J):ld N 1215 (wa b a c) Ir K =
 cO.Z19 N b a c (λb a c=>K .nrm (wa b a c)) (λa=>K (.exit 2) (sR a)):=by kernel_rfl
def f108t18L N (K:KT J):=gS K (cO.Z18L N (λa=>K (.exit 2) (sR a))) (λb a c k=>cO.Z19 N b a c k (λa=>K (.exit 2) (sR a))) (λF b a c=>f108t19 N b a c _) (by kernel_rfl)
def f108t18 N a b c (K:KT J):=vL (wa a b c) (f108t18L N (jK A6 K) N a b c) (by kernel_rfl)
def f108t17 N b a c (K:KT J):=vB 2 A6 K (cO.Z17 N b a c (λa=>K .nrm (sR a))) (f108t18 N b a c _) (by kernel_rfl)
def f108t15 N a b (K:KT J):=vQ (λk=>cO.Z16 N a b k) (f108t16 N a b _) (bZ λa b c=>f108t17 N a b c K)
def f108t20 N a (K:KT J):ld N 255 (sR a) f108lE K =
 cO.Z20 N a (λb=>K .ret (f108s8 b)):=by kernel_rfl
def f108t14 N b a (K:KT J):=vQ (λk=>cO.Z15 N b a k) (f108t15 N b a _) (funext λa=>f108t20 N a K)
def f108t12 N a b c (K:KT J):=vQ (λk=>cO.Z13 N a b c k) (f108t13 N a b c _) (cX λa b=>f108t14 N a b K)
def f108t10 N a b (K:KT J):=vQ (λk=>cO.Z11 N a b k) (f108t11 N a b _) (bZ λa c b=>f108t12 N a c b K)
def f108t6 N a b c (K:KT J):=vQ (λk=>cO.Z7 N a b c k) (f108t7 N a b c _) (cX λa b=>f108t10 N a b K)
def f108t4 N a b (K:KT J):=vQ (λk=>cO.Z5 N a b k) (f108t5 N a b _) (bZ λa b c=>f108t6 N a b c K)
def f108t2 N a (K:KT J):=vQ (λk=>cO.Z3 N a k) (f108t3 N a _) (cX λb a=>f108t4 N b a K)
def f108t0 N a (K:KT J):=vQ (λk=>cO.Z1 N a k) (f108t1 N a _) (funext λa=>f108t2 N a K)
def f108ok(h:cO.Spec):av Tryz.prog 108 A5 :=
 bu Tryz.func108 bq f108GOk (λN X K=>f108t0 N X.1 K) (by kernel_rfl) λX hb hp=>by obtain⟨a,_⟩:=X;obtain⟨N,h⟩:=h a hp;exact⟨N,Eq.trans (by kernel_rfl) (h N (Nat.le_refl N))⟩
def e108ok:av Tryz.prog 108 A5:=f108ok cO.ok
def Is:aW:=⟨[⟨.pair (.int .i64) (.pair (.int .i64) (.sl 3 (.int .i64))),true,false⟩,⟨.int .i64,false,false⟩],[⟨.int .i64,false,false⟩]⟩
def A7:aK:=⟨Is,(some λX=>de.P X.1 X.2.1),λX=>((),((de.g X.1 X.2.1),()))⟩
def It:Gm:=aD bi 105 jG
def f109GOk:aw Tryz.prog It:=(aw.nil).add kW (by kernel_rfl)
def f109lE:ab:=⟨[],[],[],[],[]⟩
def f109s0(a:MT)(b:Int):St:=be Is.ps (a,(b,()))
def Iu(a b c:Int)(d:LI):St:=af [(1,xi a),(2,xb 2)] [(2,(27,[yi b,yi c,.sn 3 tI d none]))] []
def f109l1:ab:=⟨[1,2],[2],[],[],[]⟩
def Iv(a b c d:Int)(e:LI):St:=af [(1,xi a),(2,xb 2),(5,xi b)] [(2,(27,[yi c,yi d,.sn 3 tI e none]))] []
def f109l2:ab:=⟨[1,2,5],[2],[],[],[]⟩
def wb(a b c d e:Int)(f:LI):St:=af [(1,xi a),(2,xb 2),(5,xi b),(6,xi c)] [(2,(27,[yi d,yi e,.sn 3 tI f none]))] []
def Iw:ab:=⟨[1,2,5,6],[2],[],[],[]⟩
def sS(a:Int):St:=af [(5,xi a)] [] []
def A8:ab:=⟨[5],[],[],[],[]⟩
def f109s5(a:Int):St:=af [(4,xi a)] [] []
def f109l5:ab:=⟨[4],[],[],[],[]⟩
def f109B:Nat->Option ab:=az [(0,A8),(1000000,f109l5)]
abbrev sT{J:Type}(N n:Nat)(U:St)(l:ab)(K:KT J):Option J:=an It bm f109B N (a8 99 (bn Tryz.f109) n) .n U (ay (some l) K)
def f109t1 N b a (K:KT J):sT N 2 (f109s0 b a) f109l1 K =
 de.Z1 N b a (λa c d e=>K .nrm (Iu a c d e)):=by kernel_rfl
def f109t3 N a b c d (K:KT J):sT N 5 (Iu a b c d) f109l2 K =
 de.Z3 N a b c d (λa e b c d=>K .nrm (Iv a e b c d)):=by kernel_rfl
def f109t6 N a b c d e (K:KT J):sT N 19 (Iv a b c d e) Iw K =
 de.Z6 N a b c d e (λa b f c d e=>K .nrm (wb a b f c d e)):=by kernel_rfl
def f109t9 N b a c d e f (K:KT J):sT N 75 (wb b a c d e f) Iw K =
 de.Z9 N b a c d e f (λb a c d e f=>K .nrm (wb b a c d e f)) (λa=>K (.exit 0) (sS a)):=by kernel_rfl
def f109t8L N (K:KT J):=iV K (de.Z8L N (λa=>K (.exit 0) (sS a))) (λb a c d e f k=>de.Z9 N b a c d e f k (λa=>K (.exit 0) (sS a))) (λF b a c d e f=>f109t9 N b a c d e f _) (by kernel_rfl)
def f109t8 N a b c d e f (K:KT J):=vL (wb a b c d e f) (f109t8L N (jK A8 K) N a b c d e f) (by kernel_rfl)
def f109t7 N b a c d e f (K:KT J):=vB 0 A8 K (de.Z7 N b a c d e f (λa=>K .nrm (sS a))) (f109t8 N b a c d e f _) (by kernel_rfl)
def f109t5 N a b c d e (K:KT J):=vQ (λk=>de.Z6 N a b c d e k) (f109t6 N a b c d e _) (cC λa b f c d e=>f109t7 N a b f c d e K)
def f109t10 N a (K:KT J):sT N 15 (sS a) f109lE K =
 de.Z10 N a (λb=>K .ret (f109s5 b)):=by kernel_rfl
def f109t4 N b a c d e (K:KT J):=vQ (λk=>de.Z5 N b a c d e k) (f109t5 N b a c d e _) (funext λa=>f109t10 N a K)
def f109t2 N a b c d (K:KT J):=vQ (λk=>de.Z3 N a b c d k) (f109t3 N a b c d _) (bO λa e b c d=>f109t4 N a e b c d K)
def f109t0 N b a (K:KT J):=vQ (λk=>de.Z1 N b a k) (f109t1 N b a _) (dn λa c d e=>f109t2 N a c d e K)
def f109ok(h:de.Spec):av Tryz.prog 109 A7 :=
 bu Tryz.func109 bq f109GOk (λN X K=>f109t0 N X.1 X.2.1 K) (by kernel_rfl) λX hb hp=>by obtain⟨a,b,_⟩:=X;obtain⟨N,h⟩:=h a b hb.1 hp;exact⟨N,Eq.trans (by kernel_rfl) (h N (Nat.le_refl N))⟩
def e109ok:av Tryz.prog 109 A7:=f109ok de.ok
def Ix:aW:=⟨[⟨.pair (.int .i64) (.pair (.int .i64) (.sl 3 (.int .i64))),true,false⟩,⟨.sl 3 (.int .i64),false,false⟩],[⟨.str,false,false⟩]⟩
def A9:aK:=⟨Ix,(some λX=>bC.P X.1 X.2.1),λX=>((),((bC.g X.1 X.2.1),()))⟩
def Iy:Gm:=aD (aD (aD (aD bi 105 jG) 106 sE) 108 A5) 109 A7
def f75GOk:aw Tryz.prog Iy:=((((aw.nil).add kW (by kernel_rfl)).add Au (by kernel_rfl)).add e108ok (by kernel_rfl)).add e109ok (by kernel_rfl)
def f75lE:ab:=⟨[],[],[],[],[]⟩
def f75s0(a:MT)(b:LI):St:=be Ix.ps (a,(b,()))
def Iz(a:LI)(b d:Int)(e:LI):St:=af [(1,.c (.sn 3 tI a none)),(2,xb 2)] [(2,(27,[yi b,yi d,.sn 3 tI e none]))] []
def f75l1:ab:=⟨[1,2],[2],[],[],[]⟩
def IA(a:LI)(b:ByteArray)(d e:Int)(f:LI):St:=af [(1,.c (.sn 3 tI a none)),(2,xb 2),(5,.c (.str b))] [(2,(27,[yi d,yi e,.sn 3 tI f none]))] []
def f75l2:ab:=⟨[1,2,5],[2],[],[],[]⟩
def IB(a:LI)(b:ByteArray)(d:Bool)(e f:Int)(g:LI):St:=af [(1,.c (.sn 3 tI a none)),(2,xb 2),(5,.c (.str b)),(6,xB d)] [(2,(27,[yi e,yi f,.sn 3 tI g none]))] []
def f75l3:ab:=⟨[1,2,5,6],[2],[],[],[]⟩
def IC(a:LI)(b:ByteArray)(d:Bool)(e f g:Int)(h:LI):St:=af [(1,.c (.sn 3 tI a none)),(2,xb 2),(5,.c (.str b)),(6,xB d),(7,xi e)] [(2,(27,[yi f,yi g,.sn 3 tI h none]))] []
def f75l4:ab:=⟨[1,2,5,6,7],[2],[],[],[]⟩
def ID(a:LI)(b:ByteArray)(d:Bool)(e:Int)(f:ByteArray)(g h:Int)(i:LI):St:=af [(1,.c (.sn 3 tI a none)),(2,xb 2),(5,.c (.str b)),(6,xB d),(7,xi e),(8,.c (.str f))] [(2,(27,[yi g,yi h,.sn 3 tI i none]))] []
def f75l5:ab:=⟨[1,2,5,6,7,8],[2],[],[],[]⟩
def gJ(a:LI)(b:ByteArray)(d:Bool)(e:Int)(f:ByteArray)(g h i:Int)(j:LI):St:=af [(1,.c (.sn 3 tI a none)),(2,xb 2),(5,.c (.str b)),(6,xB d),(7,xi e),(8,.c (.str f)),(9,xi g)] [(2,(27,[yi h,yi i,.sn 3 tI j none]))] []
def lf:ab:=⟨[1,2,5,6,7,8,9],[2],[],[],[]⟩
def jJ(a:LI)(b:ByteArray)(d:Bool)(e:Int)(f:ByteArray)(g h i j:Int)(l:LI):St:=af [(1,.c (.sn 3 tI a none)),(2,xb 2),(5,.c (.str b)),(6,xB d),(7,xi e),(8,.c (.str f)),(9,xi g),(10,xi h)] [(2,(27,[yi i,yi j,.sn 3 tI l none]))] []
def pY:ab:=⟨[1,2,5,6,7,8,9,10],[2],[],[],[]⟩
def IE(a:LI)(b:ByteArray)(d:Bool)(e:Int)(f:ByteArray)(g h i j l:Int)(m:LI):St:=af [(1,.c (.sn 3 tI a none)),(2,xb 2),(5,.c (.str b)),(6,xB d),(7,xi e),(8,.c (.str f)),(9,xi g),(10,xi h),(11,xi i)] [(2,(27,[yi j,yi l,.sn 3 tI m none]))] []
def f75l8:ab:=⟨[1,2,5,6,7,8,9,10,11],[2],[],[],[]⟩
def pZ(a:LI)(b:ByteArray)(d:Bool)(e:Int)(f:ByteArray)(g h i j l m:Int)(o:LI):St:=af [(1,.c (.sn 3 tI a none)),(2,xb 2),(5,.c (.str b)),(6,xB d),(7,xi e),(8,.c (.str f)),(9,xi g),(10,xi h),(11,xi i),(12,xi j)] [(2,(27,[yi l,yi m,.sn 3 tI o none]))] []
def Ba:ab:=⟨[1,2,5,6,7,8,9,10,11,12],[2],[],[],[]⟩
def IF(a:LI)(b:ByteArray)(d:Bool)(e:Int)(f:ByteArray)(g h i j l m o:Int)(p:LI):St:=af [(1,.c (.sn 3 tI a none)),(2,xb 2),(5,.c (.str b)),(6,xB d),(7,xi e),(8,.c (.str f)),(9,xi g),(10,xi h),(11,xi i),(12,xi j),(13,xi l)] [(2,(27,[yi m,yi o,.sn 3 tI p none]))] []
def f75l10:ab:=⟨[1,2,5,6,7,8,9,10,11,12,13],[2],[],[],[]⟩
def IG(a:LI)(b:ByteArray)(d:Bool)(e:ByteArray)(f g h i j l m:Int)(o:LI):St:=af [(1,.c (.sn 3 tI a none)),(2,xb 2),(5,.c (.str b)),(6,xB d),(8,.c (.str e)),(9,xi f),(10,xi g),(11,xi h),(12,xi i),(13,xi j)] [(2,(27,[yi l,yi m,.sn 3 tI o none]))] []
def f75l11:ab:=⟨[1,2,5,6,8,9,10,11,12,13],[2],[],[],[]⟩
def p5(a:LI)(b:ByteArray)(d:Bool)(e:Int)(f:ByteArray):St:=af [(1,.c (.sn 3 tI a none)),(5,.c (.str b)),(6,xB d),(7,xi e),(8,.c (.str f))] [] []
def Bb:ab:=⟨[1,5,6,7,8],[],[],[],[]⟩
def f75s13(a:ByteArray):St:=af [(4,.c (.str a))] [] []
def f75l13:ab:=⟨[4],[],[],[],[]⟩
def f75B:Nat->Option ab:=az [(3,pY),(2,lf),(1,lf),(0,Bb),(1000000,f75l13)]
abbrev eQ{J:Type}(N n:Nat)(U:St)(l:ab)(K:KT J):Option J:=an Iy bm f75B N (a8 99 (bn Tryz.f75) n) .n U (ay (some l) K)
def f75t1 N b a (K:KT J):eQ N 2 (f75s0 b a) f75l1 K =
 bC.Z1 N b a (λa c d e=>K .nrm (Iz a c d e)):=by kernel_rfl
def f75t3 N a b c d (K:KT J):eQ N 5 (Iz a b c d) f75l2 K =
 bC.Z3 N a b c d (λa e b c d=>K .nrm (IA a e b c d)):=by kernel_rfl
def f75t5 N a b c d e (K:KT J):eQ N 11 (IA a b c d e) f75l3 K =
 bC.Z5 N a b c d e (λa b f c d e=>K .nrm (IB a b f c d e)):=by kernel_rfl
def f75t7 N a b c d e f (K:KT J):eQ N 23 (IB a b c d e f) f75l4 K =
 bC.Z7 N a b c d e f (λa b c g d e f=>K .nrm (IC a b c g d e f)):=by kernel_rfl
def f75t9 N a b c d e f g (K:KT J):eQ N 47 (IC a b c d e f g) f75l5 K =
 bC.Z9 N a b c d e f g (λa b c d h e f g=>K .nrm (ID a b c d h e f g)):=by kernel_rfl
def f75t12 N a b c d e f g h (K:KT J):eQ N 159 (ID a b c d e f g h) lf K =
 bC.Z12 N a b c d e f g h (λa b c d e i f g h=>K .nrm (gJ a b c d e i f g h)):=by kernel_rfl
def f75t16 N a b c d e f g h i (K:KT J):eQ N 1119 (gJ a b c d e f g h i) lf K =
 bC.Z16 N a b c d e f g h i (λa b c d e f g h i=>K .nrm (gJ a b c d e f g h i)) (λa b c d e=>K (.exit 0) (p5 a b c d e)):=by kernel_rfl
def f75t20 N a b c d e f g h i (K:KT J):eQ N 8799 (gJ a b c d e f g h i) lf K =
 bC.Z20 N a b c d e f g h i (λa b c d e f g h i=>K .nrm (gJ a b c d e f g h i)):=by kernel_rfl
def f75t22 N a b c d e f g h i (K:KT J):eQ N 21087 (gJ a b c d e f g h i) pY K =
 bC.Z22 N a b c d e f g h i (λa b c d e f j g h i=>K .nrm (jJ a b c d e f j g h i)):=by kernel_rfl
def f75t26 N a b c d e f j g h i (K:KT J):eQ N 143967 (jJ a b c d e f j g h i) pY K =
 bC.Z26 N a b c d e f j g h i (λa b c d e f j g h i=>K .nrm (jJ a b c d e f j g h i)) (λa b c d e f g h i=>K (.exit 2) (gJ a b c d e f g h i)):=by kernel_rfl
def f75t30 N a b c d e f g h i j (K:KT J):eQ N 1127007 (jJ a b c d e f g h i j) f75l8 K =
 bC.Z30 N a b c d e f g h i j (λa b c d e f g l h i j=>K .nrm (IE a b c d e f g l h i j)):=by kernel_rfl
def f75t32 N a b c d e f g h i j l (K:KT J):eQ N 2699871 (IE a b c d e f g h i j l) Ba K =
 bC.Z32 N a b c d e f g h i j l (λa b c d e f g h m i j l=>K .nrm (pZ a b c d e f g h m i j l)):=by kernel_rfl
def f75t34 N a b c d e f g h i j l m (K:KT J):eQ N 5845599 (pZ a b c d e f g h i j l m) f75l10 K =
 bC.Z34 N a b c d e f g h i j l m (λa b c d e f g h i o j l m=>K .nrm (IF a b c d e f g h i o j l m)):=by kernel_rfl
def f75t36 N a b c j d e f l m o g h i (K:KT J):eQ N 12137055 (IF a b c j d e f l m o g h i) f75l11 K =
 bC.Z36 N a b c j d e f l m o g h i (λa b c d e f l m o g h i=>K .nrm (IG a b c d e f l m o g h i)) (λa b c j d e f g h i=>K (.exit 3) (jJ a b c j d e f g h i)):=by kernel_rfl
def f75t38 N a b c d e f g h m i j l (K:KT J):eQ N 24719967 (IG a b c d e f g h m i j l) Ba K =
 bC.Z38 N a b c d e f g h m i j l (λa b c o d e f g h i j l=>K .nrm (pZ a b c o d e f g h i j l)):=by kernel_rfl
def f75t40 N a b c d e f g h i j l m (K:KT J):eQ N 49885791 (pZ a b c d e f g h i j l m) Ba K =
 bC.Z40 N a b c d e f g h i j l m (λa b c d e f g h i j l m=>K .nrm (pZ a b c d e f g h i j l m)):=by kernel_rfl
def f75t41 N a b c d e f g l m h i j (K:KT J):eQ N 66663007 (pZ a b c d e f g l m h i j) pY K =
 bC.Z41 N a b c d e f g l m h i j (λa b c d e f g h i j=>K .nrm (jJ a b c d e f g h i j)):=by kernel_rfl
def f75t39 N a b c d e f g h i j l m (K:KT J):=vQ (λk=>bC.Z40 N a b c d e f g h i j l m k) (f75t40 N a b c d e f g h i j l m _) (j0 λa b c d e f g h i j l m=>f75t41 N a b c d e f g h i j l m K)
def f75t37 N a b c d e f g h m i j l (K:KT J):=vQ (λk=>bC.Z38 N a b c d e f g h m i j l k) (f75t38 N a b c d e f g h m i j l _) (j0 λa b c o d e f g h i j l=>f75t39 N a b c o d e f g h i j l K)
def f75t35 N a b c j d e f l m o g h i (K:KT J):=vQ (λk=>bC.Z36 N a b c j d e f l m o g h i k (λa b c j d e f g h i=>K (.exit 3) (jJ a b c j d e f g h i))) (f75t36 N a b c j d e f l m o g h i _) (j0 λa b c d e f l m o g h i=>f75t37 N a b c d e f l m o g h i K)
def f75t33 N a b c d e f g h i j l m (K:KT J):=vQ (λk=>bC.Z34 N a b c d e f g h i j l m k) (f75t34 N a b c d e f g h i j l m _) (lN λa b c d e f g h i o j l m=>f75t35 N a b c d e f g h i o j l m K)
def f75t31 N a b c d e f g h i j l (K:KT J):=vQ (λk=>bC.Z32 N a b c d e f g h i j l k) (f75t32 N a b c d e f g h i j l _) (j0 λa b c d e f g h m i j l=>f75t33 N a b c d e f g h m i j l K)
def f75t29 N a b c d e f g h i j (K:KT J):=vQ (λk=>bC.Z30 N a b c d e f g h i j k) (f75t30 N a b c d e f g h i j _) (fE λa b c d e f g l h i j=>f75t31 N a b c d e f g l h i j K)
def f75t28 N a b c d e f g h i j (K:KT J):=vB 3 pY K (bC.Z28 N a b c d e f g h i j (λa b c d e f g h i j=>K .nrm (jJ a b c d e f g h i j))) (f75t29 N a b c d e f g h i j _) (by kernel_rfl)
def f75t42 N a b c d e f g h i j (K:KT J):eQ N 471647 (jJ a b c d e f g h i j) pY K =
 bC.Z42 N a b c d e f g h i j (λa b c d e f g h i j=>K .nrm (jJ a b c d e f g h i j)):=by kernel_rfl
def f75t27 N a b c d e f g h i j (K:KT J):=vQ (λk=>bC.Z28 N a b c d e f g h i j k) (f75t28 N a b c d e f g h i j _) (cJ λa b c d e f g h i j=>f75t42 N a b c d e f g h i j K)
def f75t25 N a b c d e f j g h i (K:KT J):=vQ (λk=>bC.Z26 N a b c d e f j g h i k (λa b c d e f g h i=>K (.exit 2) (gJ a b c d e f g h i))) (f75t26 N a b c d e f j g h i _) (cJ λa b c d e f j g h i=>f75t27 N a b c d e f j g h i K)
def f75t24L N (K:KT J):=kP K (bC.Z24L N (λa b c d e f g h i=>K (.exit 2) (gJ a b c d e f g h i))) (λa b c d e f j g h i k=>bC.Z25 N a b c d e f j g h i k (λa b c d e f g h i=>K (.exit 2) (gJ a b c d e f g h i))) (λF a b c d e f j g h i=>f75t25 N a b c d e f j g h i _) (by kernel_rfl)
def f75t24 N a b c d e f g h i j (K:KT J):=vL (jJ a b c d e f g h i j) (f75t24L N (jK lf K) N a b c d e f g h i j) (by kernel_rfl)
def f75t23 N a b c d e f j g h i (K:KT J):=vB 2 lf K (bC.Z23 N a b c d e f j g h i (λa b c d e f g h i=>K .nrm (gJ a b c d e f g h i))) (f75t24 N a b c d e f j g h i _) (by kernel_rfl)
def f75t21 N a b c d e f g h i (K:KT J):=vQ (λk=>bC.Z22 N a b c d e f g h i k) (f75t22 N a b c d e f g h i _) (cJ λa b c d e f j g h i=>f75t23 N a b c d e f j g h i K)
def f75t19 N a b c d e f g h i (K:KT J):=vQ (λk=>bC.Z20 N a b c d e f g h i k) (f75t20 N a b c d e f g h i _) (c6 λa b c d e f g h i=>f75t21 N a b c d e f g h i K)
def f75t18 N a b c d e f g h i (K:KT J):=vB 1 lf K (bC.Z18 N a b c d e f g h i (λa b c d e f g h i=>K .nrm (gJ a b c d e f g h i))) (f75t19 N a b c d e f g h i _) (by kernel_rfl)
def f75t43 N a b c d e f g h i (K:KT J):eQ N 3679 (gJ a b c d e f g h i) lf K =
 bC.Z43 N a b c d e f g h i (λa b c d e f g h i=>K .nrm (gJ a b c d e f g h i)):=by kernel_rfl
def f75t17 N a b c d e f g h i (K:KT J):=vQ (λk=>bC.Z18 N a b c d e f g h i k) (f75t18 N a b c d e f g h i _) (c6 λa b c d e f g h i=>f75t43 N a b c d e f g h i K)
def f75t15 N a b c d e f g h i (K:KT J):=vQ (λk=>bC.Z16 N a b c d e f g h i k (λa b c d e=>K (.exit 0) (p5 a b c d e))) (f75t16 N a b c d e f g h i _) (c6 λa b c d e f g h i=>f75t17 N a b c d e f g h i K)
def f75t14L N (K:KT J):=oY K (bC.Z14L N (λa b c d e=>K (.exit 0) (p5 a b c d e))) (λa b c d e f g h i k=>bC.Z15 N a b c d e f g h i k (λa b c d e=>K (.exit 0) (p5 a b c d e))) (λF a b c d e f g h i=>f75t15 N a b c d e f g h i _) (by kernel_rfl)
def f75t14 N a b c d e f g h i (K:KT J):=vL (gJ a b c d e f g h i) (f75t14L N (jK Bb K) N a b c d e f g h i) (by kernel_rfl)
def f75t13 N a b c d e f g h i (K:KT J):=vB 0 Bb K (bC.Z13 N a b c d e f g h i (λa b c d e=>K .nrm (p5 a b c d e))) (f75t14 N a b c d e f g h i _) (by kernel_rfl)
def f75t11 N a b c d e f g h (K:KT J):=vQ (λk=>bC.Z12 N a b c d e f g h k) (f75t12 N a b c d e f g h _) (c6 λa b c d e i f g h=>f75t13 N a b c d e i f g h K)
def f75t44 N a b c d e (K:KT J):eQ N 127 (p5 a b c d e) f75lE K =
 bC.Z44 N a b c d e (λf=>K .ret (f75s13 f)):=by kernel_rfl
def f75t10 N a b c d e f g h (K:KT J):=vQ (λk=>bC.Z11 N a b c d e f g h k) (f75t11 N a b c d e f g h _) (bO λa b c d e=>f75t44 N a b c d e K)
def f75t8 N a b c d e f g (K:KT J):=vQ (λk=>bC.Z9 N a b c d e f g k) (f75t9 N a b c d e f g _) (eX λa b c d h e f g=>f75t10 N a b c d h e f g K)
def f75t6 N a b c d e f (K:KT J):=vQ (λk=>bC.Z7 N a b c d e f k) (f75t7 N a b c d e f _) (eC λa b c g d e f=>f75t8 N a b c g d e f K)
def f75t4 N a b c d e (K:KT J):=vQ (λk=>bC.Z5 N a b c d e k) (f75t5 N a b c d e _) (cC λa b f c d e=>f75t6 N a b f c d e K)
def f75t2 N a b c d (K:KT J):=vQ (λk=>bC.Z3 N a b c d k) (f75t3 N a b c d _) (bO λa e b c d=>f75t4 N a e b c d K)
def f75t0 N b a (K:KT J):=vQ (λk=>bC.Z1 N b a k) (f75t1 N b a _) (dn λa c d e=>f75t2 N a c d e K)
def f75ok(h:bC.Spec):av Tryz.prog 75 A9 :=
 bu Tryz.func75 bq f75GOk (λN X K=>f75t0 N X.1 X.2.1 K) (by kernel_rfl) λX hb hp=>by obtain⟨a,b,_⟩:=X;obtain⟨N,h⟩:=h a b hb.1 hb.2.1 hp;exact⟨N,Eq.trans (by kernel_rfl) (h N (Nat.le_refl N))⟩
def e75ok:av Tryz.prog 75 A9:=f75ok bC.ok
def IH:aW:=⟨[⟨.pair (.int .i64) (.pair (.int .i64) (.sl 3 (.int .i64))),true,false⟩],[⟨.str,false,false⟩]⟩
def Bc:aK:=⟨IH,none,λX=>((),((aZ.g X.1),()))⟩
def II:Gm:=aD (aD (aD (aD (aD bi 40 AZ) 72 sC) 73 vm) 74 A3) 75 A9
def f32GOk:aw Tryz.prog II:=(((((aw.nil).add e40ok (by kernel_rfl)).add Ar (by kernel_rfl)).add GM (by kernel_rfl)).add e74ok (by kernel_rfl)).add e75ok (by kernel_rfl)
def f32lE:ab:=⟨[],[],[],[],[]⟩
def f32s0(a:MT):St:=be IH.ps (a,())
def IJ(a b:Int)(c:LI):St:=af [(1,xb 1)] [(1,(27,[yi a,yi b,.sn 3 tI c none]))] []
def f32l1:ab:=⟨[1],[1],[],[],[]⟩
def IK(a:LM)(b:Bool)(c d:Int)(e:LI):St:=af [(1,xb 1),(3,xo 1000192),(4,xB b)] [(1,(27,[yi c,yi d,.sn 3 tI e none]))] [(1000192,(⟨27,tM 3,a,true,false⟩:ac))]
def f32l2:ab:=⟨[1,3,4],[1],[],[],[(⟨false,3,0⟩,1000192)]⟩
def IL(a:LM)(b c:Int)(d:LI):St:=af [(1,xb 1),(3,xo 1000192)] [(1,(27,[yi b,yi c,.sn 3 tI d none]))] [(1000192,(⟨27,tM 3,a,true,false⟩:ac))]
def f32l3:ab:=⟨[1,3],[1],[],[],[(⟨false,3,0⟩,1000192)]⟩
def kp(a:LM)(b c d:Int)(e:LI):St:=af [(1,xb 1),(3,xo 1000192),(5,xi b)] [(1,(27,[yi c,yi d,.sn 3 tI e none]))] [(1000192,(⟨27,tM 3,a,true,false⟩:ac))]
def p6:ab:=⟨[1,3,5],[1],[],[],[(⟨false,3,0⟩,1000192)]⟩
def IM(a:LM)(b:List ByteArray)(c d e:Int)(f:LI):St:=af [(1,xb 1),(3,xo 1000192),(5,xi c),(6,xo 1000384)] [(1,(27,[yi d,yi e,.sn 3 tI f none]))] [(1000192,(⟨27,tM 3,a,true,false⟩:ac)),(1000384,(⟨9,.str,b,true,false⟩:ac))]
def f32l5:ab:=⟨[1,3,5,6],[1],[],[],[(⟨false,3,0⟩,1000192),(⟨false,6,0⟩,1000384)]⟩
def IN(a:LM)(b:List ByteArray)(c:LI)(d e f:Int)(g:LI):St:=af [(1,xb 1),(3,xo 1000192),(5,xi d),(6,xo 1000384),(7,xo 1000448)] [(1,(27,[yi e,yi f,.sn 3 tI g none]))] [(1000192,(⟨27,tM 3,a,true,false⟩:ac)),(1000384,(⟨9,.str,b,true,false⟩:ac)),(1000448,(⟨3,.int .i64,c,true,false⟩:ac))]
def f32l6:ab:=⟨[1,3,5,6,7],[1],[],[],[(⟨false,3,0⟩,1000192),(⟨false,6,0⟩,1000384),(⟨false,7,0⟩,1000448)]⟩
def zIO(a:LM)(b:List ByteArray)(c:LI)(d:Int)(e:Bool)(f g:Int)(h:LI):St:=af [(1,xb 1),(3,xo 1000192),(5,xi d),(6,xo 1000384),(7,xo 1000448),(8,xB e)] [(1,(27,[yi f,yi g,.sn 3 tI h none]))] [(1000192,(⟨27,tM 3,a,true,false⟩:ac)),(1000384,(⟨9,.str,b,true,false⟩:ac)),(1000448,(⟨3,.int .i64,c,true,false⟩:ac))]
def f32l7:ab:=⟨[1,3,5,6,7,8],[1],[],[],[(⟨false,3,0⟩,1000192),(⟨false,6,0⟩,1000384),(⟨false,7,0⟩,1000448)]⟩
def iI(a:LM)(b:List ByteArray)(c:LI)(d:Int)(e:Bool)(f g h:Int)(i:LI):St:=af [(1,xb 1),(3,xo 1000192),(5,xi d),(6,xo 1000384),(7,xo 1000448),(8,xB e),(9,xi f)] [(1,(27,[yi g,yi h,.sn 3 tI i none]))] [(1000192,(⟨27,tM 3,a,true,false⟩:ac)),(1000384,(⟨9,.str,b,true,false⟩:ac)),(1000448,(⟨3,.int .i64,c,true,false⟩:ac))]
def nY:ab:=⟨[1,3,5,6,7,8,9],[1],[],[],[(⟨false,3,0⟩,1000192),(⟨false,6,0⟩,1000384),(⟨false,7,0⟩,1000448)]⟩
def p7(a:LM)(b:List ByteArray)(c d:LI)(e:Int)(f:Bool)(g h i:Int)(j:LI):St:=af [(1,xb 1),(3,xo 1000192),(5,xi e),(6,xo 1000384),(7,xo 1000448),(8,xB f),(9,xi g),(10,xo 1000640)] [(1,(27,[yi h,yi i,.sn 3 tI j none]))] [(1000192,(⟨27,tM 3,a,true,false⟩:ac)),(1000384,(⟨9,.str,b,true,false⟩:ac)),(1000448,(⟨3,.int .i64,c,true,false⟩:ac)),(1000640,(⟨3,.int .i64,d,true,false⟩:ac))]
def Bd:ab:=⟨[1,3,5,6,7,8,9,10],[1],[],[],[(⟨false,3,0⟩,1000192),(⟨false,6,0⟩,1000384),(⟨false,7,0⟩,1000448),(⟨false,10,0⟩,1000640)]⟩
def IP(a:LM)(b:List ByteArray)(d:LI)(e:Int)(f:Bool)(g:Int)(h:ByteArray)(i j:Int)(l:LI):St:=af [(1,xb 1),(3,xo 1000192),(5,xi e),(6,xo 1000384),(7,xo 1000448),(8,xB f),(9,xi g),(12,.c (.str h))] [(1,(27,[yi i,yi j,.sn 3 tI l none]))] [(1000192,(⟨27,tM 3,a,true,false⟩:ac)),(1000384,(⟨9,.str,b,true,false⟩:ac)),(1000448,(⟨3,.int .i64,d,true,false⟩:ac))]
def f32l10:ab:=⟨[1,3,5,6,7,8,9,12],[1],[],[],[(⟨false,3,0⟩,1000192),(⟨false,6,0⟩,1000384),(⟨false,7,0⟩,1000448)]⟩
def lh(a:LM)(b:List ByteArray)(d:LI)(e:Int)(f:Bool)(g:Int)(h:ByteArray)(i j l:Int)(m:LI):St:=af [(1,xb 1),(3,xo 1000192),(5,xi e),(6,xo 1000384),(7,xo 1000448),(8,xB f),(9,xi g),(12,.c (.str h)),(13,xi i)] [(1,(27,[yi j,yi l,.sn 3 tI m none]))] [(1000192,(⟨27,tM 3,a,true,false⟩:ac)),(1000384,(⟨9,.str,b,true,false⟩:ac)),(1000448,(⟨3,.int .i64,d,true,false⟩:ac))]
def sU:ab:=⟨[1,3,5,6,7,8,9,12,13],[1],[],[],[(⟨false,3,0⟩,1000192),(⟨false,6,0⟩,1000384),(⟨false,7,0⟩,1000448)]⟩
def p8(a:LM)(b:List ByteArray)(c:Int)(d:Bool)(e f:Int)(g:LI):St:=af [(1,xb 1),(3,xo 1000192),(5,xi c),(6,xo 1000384),(8,xB d)] [(1,(27,[yi e,yi f,.sn 3 tI g none]))] [(1000192,(⟨27,tM 3,a,true,false⟩:ac)),(1000384,(⟨9,.str,b,true,false⟩:ac))]
def Be:ab:=⟨[1,3,5,6,8],[1],[],[],[(⟨false,3,0⟩,1000192),(⟨false,6,0⟩,1000384)]⟩
def IQ(a:List ByteArray):St:=af [(6,xo 1000384)] [] [(1000384,(⟨9,.str,a,true,false⟩:ac))]
def f32l13:ab:=⟨[6],[],[],[],[(⟨false,6,0⟩,1000384)]⟩
def IR(a:List ByteArray)(b:ByteArray):St:=af [(6,xo 1000384),(14,.c (.str b))] [] [(1000384,(⟨9,.str,a,true,false⟩:ac))]
def f32l14:ab:=⟨[6,14],[],[],[],[(⟨false,6,0⟩,1000384)]⟩
def wc(a:List ByteArray)(b:ByteArray)(d:Int):St:=af [(6,xo 1000384),(14,.c (.str b)),(15,xi d)] [] [(1000384,(⟨9,.str,a,true,false⟩:ac))]
def IS:ab:=⟨[6,14,15],[],[],[],[(⟨false,6,0⟩,1000384)]⟩
def sV(a:ByteArray):St:=af [(14,.c (.str a))] [] []
def Bf:ab:=⟨[14],[],[],[],[]⟩
def p9 :St:=af [] [] []
def Bg:ab:=⟨[],[],[],[],[]⟩
def kq(a:ByteArray):St:=af [(2,.c (.str a))] [] []
def f32l18:ab:=⟨[2],[],[],[],[]⟩
def f32B:Nat->Option ab:=az [(4,sU),(3,nY),(2,Be),(6,Bf),(1,p6),(0,Bg),(1000000,f32l18)]
abbrev dL{J:Type}(N n:Nat)(U:St)(l:ab)(K:KT J):Option J:=an II bm f32B N (a8 99 (bn Tryz.f32) n) .n U (ay (some l) K)
def f32t1 N a (K:KT J):dL N 2 (f32s0 a) f32l1 K =
 aZ.Z1 N a (λb c d=>K .nrm (IJ b c d)):=by kernel_rfl
def f32t3 N a b c (K:KT J):dL N 5 (IJ a b c) f32l2 K =
 aZ.Z3 N a b c (λd e a b c=>K .nrm (IK d e a b c)):=by kernel_rfl
def f32t5 N a e b c d (K:KT J):dL N 11 (IK a e b c d) f32l3 K =
 aZ.Z5 N a e b c d (λa b c d=>K .nrm (IL a b c d)) (λf=>K .ret (kq f)):=by kernel_rfl
def f32t8 N a b c d (K:KT J):dL N 39 (IL a b c d) p6 K =
 aZ.Z8 N a b c d (λa e b c d=>K .nrm (kp a e b c d)):=by kernel_rfl
def f32t12 N a b c d e (K:KT J):dL N 279 (kp a b c d e) p6 K =
 aZ.Z12 N a b c d e (λa b c d e=>K .nrm (kp a b c d e)) (K (.exit 0) p9):=by kernel_rfl
def f32t16 N a b c d e (K:KT J):dL N 2199 (kp a b c d e) f32l5 K =
 aZ.Z16 N a b c d e (λa f b c d e=>K .nrm (IM a f b c d e)):=by kernel_rfl
def f32t18 N a b c d e f (K:KT J):dL N 5271 (IM a b c d e f) f32l6 K =
 aZ.Z18 N a b c d e f (λa b g c d e f=>K .nrm (IN a b g c d e f)):=by kernel_rfl
def f32t20 N a b c d e f g (K:KT J):dL N 11415 (IN a b c d e f g) f32l7 K =
 aZ.Z20 N a b c d e f g (λa b c d h e f g=>K .nrm (zIO a b c d h e f g)):=by kernel_rfl
def f32t23 N a b c d e f g h (K:KT J):dL N 40087 (zIO a b c d e f g h) nY K =
 aZ.Z23 N a b c d e f g h (λa b c d e i f g h=>K .nrm (iI a b c d e i f g h)):=by kernel_rfl
def f32t27 N a b h c d i e f g (K:KT J):dL N 285847 (iI a b h c d i e f g) nY K =
 aZ.Z27 N a b h c d i e f g (λa b h c d i e f g=>K .nrm (iI a b h c d i e f g)) (λa b c d e f g=>K (.exit 2) (p8 a b c d e f g)):=by kernel_rfl
def f32t31 N a b c d e f g h i (K:KT J):dL N 2251927 (iI a b c d e f g h i) nY K =
 aZ.Z31 N a b c d e f g h i (λa b c d e f g h i=>K .nrm (iI a b c d e f g h i)) (λa b c d e f g h i=>K (.exit 3) (iI a b c d e f g h i)):=by kernel_rfl
def f32t33 N a b c d e f g h i (K:KT J):dL N 5397655 (iI a b c d e f g h i) Bd K =
 aZ.Z33 N a b c d e f g h i (λa b c j d e f g h i=>K .nrm (p7 a b c j d e f g h i)):=by kernel_rfl
def f32t35 N a b c d e f g h i j (K:KT J):dL N 11689111 (p7 a b c d e f g h i j) Bd K =
 aZ.Z35 N a b c d e f g h i j (λa b c d e f g h i j=>K .nrm (p7 a b c d e f g h i j)):=by kernel_rfl
def f32t37 N a b c d e f g h i j (K:KT J):dL N 24272023 (p7 a b c d e f g h i j) Bd K =
 aZ.Z37 N a b c d e f g h i j (λa b c d e f g h i j=>K .nrm (p7 a b c d e f g h i j)):=by kernel_rfl
def f32t39 N a b c j d e f g h i (K:KT J):dL N 49437847 (p7 a b c j d e f g h i) f32l10 K =
 aZ.Z39 N a b c j d e f g h i (λa b c d e f l g h i=>K .nrm (IP a b c d e f l g h i)):=by kernel_rfl
def f32t41 N a b c d e f g h i j (K:KT J):dL N 99769495 (IP a b c d e f g h i j) sU K =
 aZ.Z41 N a b c d e f g h i j (λa b c d e f g l h i j=>K .nrm (lh a b c d e f g l h i j)):=by kernel_rfl
def f32t45 N a b c d e f g h i j l (K:KT J):dL N 603085975 (lh a b c d e f g h i j l) sU K =
 aZ.Z45 N a b c d e f g h i j l (λa b c d e f g h i j l=>K .nrm (lh a b c d e f g h i j l)) (λa b c d e f g h i j l=>K (.exit 4) (lh a b c d e f g h i j l)):=by kernel_rfl
def f32t44L N (K:KT J):=oZ K (aZ.Z44L N (λa b c d e f g h i j l=>K (.exit 4) (lh a b c d e f g h i j l))) (λa b c d e f g h i j l k=>aZ.Z45 N a b c d e f g h i j l k (λa b c d e f g h i j l=>K (.exit 4) (lh a b c d e f g h i j l))) (λF a b c d e f g h i j l=>f32t45 N a b c d e f g h i j l _) (by kernel_rfl)
def f32t44 N a b c d e f g h i j l (K:KT J):=vL (lh a b c d e f g h i j l) (f32t44L N (jK sU K) N a b c d e f g h i j l) (by kernel_rfl)
def f32t43 N a b c d e f g h i j l (K:KT J):=vB 4 sU K (aZ.Z43 N a b c d e f g h i j l (λa b c d e f g h i j l=>K .nrm (lh a b c d e f g h i j l))) (f32t44 N a b c d e f g h i j l _) (by kernel_rfl)
def f32t46 N a b c d e f j l g h i (K:KT J):dL N 267541655 (lh a b c d e f j l g h i) nY K =
 aZ.Z46 N a b c d e f j l g h i (λa b c d e f g h i=>K .nrm (iI a b c d e f g h i)):=by kernel_rfl
def f32t42 N a b c d e f g h i j l (K:KT J):=vQ (λk=>aZ.Z43 N a b c d e f g h i j l k) (f32t43 N a b c d e f g h i j l _) (fE λa b c d e f g h i j l=>f32t46 N a b c d e f g h i j l K)
def f32t40 N a b c d e f g h i j (K:KT J):=vQ (λk=>aZ.Z41 N a b c d e f g h i j k) (f32t41 N a b c d e f g h i j _) (fE λa b c d e f g l h i j=>f32t42 N a b c d e f g l h i j K)
def f32t38 N a b c j d e f g h i (K:KT J):=vQ (λk=>aZ.Z39 N a b c j d e f g h i k) (f32t39 N a b c j d e f g h i _) (cJ λa b c d e f l g h i=>f32t40 N a b c d e f l g h i K)
def f32t36 N a b c d e f g h i j (K:KT J):=vQ (λk=>aZ.Z37 N a b c d e f g h i j k) (f32t37 N a b c d e f g h i j _) (cJ λa b c d e f g h i j=>f32t38 N a b c d e f g h i j K)
def f32t34 N a b c d e f g h i j (K:KT J):=vQ (λk=>aZ.Z35 N a b c d e f g h i j k) (f32t35 N a b c d e f g h i j _) (cJ λa b c d e f g h i j=>f32t36 N a b c d e f g h i j K)
def f32t32 N a b c d e f g h i (K:KT J):=vQ (λk=>aZ.Z33 N a b c d e f g h i k) (f32t33 N a b c d e f g h i _) (cJ λa b c j d e f g h i=>f32t34 N a b c j d e f g h i K)
def f32t30 N a b c d e f g h i (K:KT J):=vQ (λk=>aZ.Z31 N a b c d e f g h i k (λa b c d e f g h i=>K (.exit 3) (iI a b c d e f g h i))) (f32t31 N a b c d e f g h i _) (c6 λa b c d e f g h i=>f32t32 N a b c d e f g h i K)
def f32t29 N a b c d e f g h i (K:KT J):=vB 3 nY K (aZ.Z29 N a b c d e f g h i (λa b c d e f g h i=>K .nrm (iI a b c d e f g h i))) (f32t30 N a b c d e f g h i _) (by kernel_rfl)
def f32t47 N a b c d e f g h i (K:KT J):dL N 941207 (iI a b c d e f g h i) nY K =
 aZ.Z47 N a b c d e f g h i (λa b c d e f g h i=>K .nrm (iI a b c d e f g h i)):=by kernel_rfl
def f32t28 N a b c d e f g h i (K:KT J):=vQ (λk=>aZ.Z29 N a b c d e f g h i k) (f32t29 N a b c d e f g h i _) (c6 λa b c d e f g h i=>f32t47 N a b c d e f g h i K)
def f32t26 N a b h c d i e f g (K:KT J):=vQ (λk=>aZ.Z27 N a b h c d i e f g k (λa b c d e f g=>K (.exit 2) (p8 a b c d e f g))) (f32t27 N a b h c d i e f g _) (c6 λa b h c d i e f g=>f32t28 N a b h c d i e f g K)
def f32t25L N (K:KT J):=oY K (aZ.Z25L N (λa b c d e f g=>K (.exit 2) (p8 a b c d e f g))) (λa b h c d i e f g k=>aZ.Z26 N a b h c d i e f g k (λa b c d e f g=>K (.exit 2) (p8 a b c d e f g))) (λF a b h c d i e f g=>f32t26 N a b h c d i e f g _) (by kernel_rfl)
def f32t25 N a b c d e f g h i (K:KT J):=vL (iI a b c d e f g h i) (f32t25L N (jK Be K) N a b c d e f g h i) (by kernel_rfl)
def f32t24 N a b h c d i e f g (K:KT J):=vB 2 Be K (aZ.Z24 N a b h c d i e f g (λa b c d e f g=>K .nrm (p8 a b c d e f g))) (f32t25 N a b h c d i e f g _) (by kernel_rfl)
def f32t22 N a b c d e f g h (K:KT J):=vQ (λk=>aZ.Z23 N a b c d e f g h k) (f32t23 N a b c d e f g h _) (c6 λa b c d e i f g h=>f32t24 N a b c d e i f g h K)
def f32t49 N a b c g d e f (K:KT J):dL N 48279 (p8 a b c g d e f) f32l13 K =
 aZ.Z49 N a b c g d e f (λb=>K .nrm (IQ b)) (λa c d e f=>K (.exit 1) (kp a c d e f)):=by kernel_rfl
def f32t51 N a (K:KT J):dL N 97431 (IQ a) f32l14 K =
 aZ.Z51 N a (λa b=>K .nrm (IR a b)):=by kernel_rfl
def f32t54 N a b (K:KT J):dL N 326807 (IR a b) IS K =
 aZ.Z54 N a b (λa b c=>K .nrm (wc a b c)):=by kernel_rfl
def f32t57 N b a c (K:KT J):dL N 1244311 (wc b a c) IS K =
 aZ.Z57 N b a c (λb a c=>K .nrm (wc b a c)) (λa=>K (.exit 6) (sV a)):=by kernel_rfl
def f32t56L N (K:KT J):=gS K (aZ.Z56L N (λa=>K (.exit 6) (sV a))) (λb a c k=>aZ.Z57 N b a c k (λa=>K (.exit 6) (sV a))) (λF b a c=>f32t57 N b a c _) (by kernel_rfl)
def f32t56 N a b c (K:KT J):=vL (wc a b c) (f32t56L N (jK Bf K) N a b c) (by kernel_rfl)
def f32t55 N b a c (K:KT J):=vB 6 Bf K (aZ.Z55 N b a c (λa=>K .nrm (sV a))) (f32t56 N b a c _) (by kernel_rfl)
def f32t53 N a b (K:KT J):=vQ (λk=>aZ.Z54 N a b k) (f32t54 N a b _) (bZ λa b c=>f32t55 N a b c K)
def f32t58 N a (K:KT J):dL N 261271 (sV a) p6 K =
 aZ.Z58 N a (λb=>K .ret (kq b)):=by kernel_rfl
def f32t52 N b a (K:KT J):=vQ (λk=>aZ.Z53 N b a k) (f32t53 N b a _) (funext λa=>f32t58 N a K)
def f32t50 N a (K:KT J):=vQ (λk=>aZ.Z51 N a k) (f32t51 N a _) (cX λa b=>f32t52 N a b K)
def f32t48 N a b c g d e f (K:KT J):=vQ (λk=>aZ.Z49 N a b c g d e f k (λa c d e f=>K (.exit 1) (kp a c d e f))) (f32t49 N a b c g d e f _) (funext λb=>f32t50 N b K)
def f32t21 N a b h c d e f g (K:KT J):=vQ (λk=>aZ.Z22 N a b h c d e f g k) (f32t22 N a b h c d e f g _) (eC λa b c d e f g=>f32t48 N a b c d e f g K)
def f32t19 N a b c d e f g (K:KT J):=vQ (λk=>aZ.Z20 N a b c d e f g k) (f32t20 N a b c d e f g _) (eX λa b c d h e f g=>f32t21 N a b c d h e f g K)
def f32t17 N a b c d e f (K:KT J):=vQ (λk=>aZ.Z18 N a b c d e f k) (f32t18 N a b c d e f _) (eC λa b g c d e f=>f32t19 N a b g c d e f K)
def f32t15 N a b c d e (K:KT J):=vQ (λk=>aZ.Z16 N a b c d e k) (f32t16 N a b c d e _) (cC λa f b c d e=>f32t17 N a f b c d e K)
def f32t14 N a b c d e (K:KT J):=vB 1 p6 K (aZ.Z14 N a b c d e (λa b c d e=>K .nrm (kp a b c d e)) (λf=>K .ret (kq f))) (f32t15 N a b c d e _) (by kernel_rfl)
def f32t59 N a b c d e (K:KT J):dL N 919 (kp a b c d e) p6 K =
 aZ.Z59 N a b c d e (λa b c d e=>K .nrm (kp a b c d e)):=by kernel_rfl
def f32t13 N a b c d e (K:KT J):=vQ (λk=>aZ.Z14 N a b c d e k (λf=>K .ret (kq f))) (f32t14 N a b c d e _) (bO λa b c d e=>f32t59 N a b c d e K)
def f32t11 N a b c d e (K:KT J):=vQ (λk=>aZ.Z12 N a b c d e k (K (.exit 0) p9)) (f32t12 N a b c d e _) (bO λa b c d e=>f32t13 N a b c d e K)
def f32t10L N (K:KT J):=j8 K (aZ.Z10L N (K (.exit 0) p9) (λa=>K .ret (kq a))) (λb c d e f k=>aZ.Z11 N b c d e f k (K (.exit 0) p9) (λa=>K .ret (kq a))) (λF b c d e f=>f32t11 N b c d e f _) (by kernel_rfl)
def f32t10 N a b c d e (K:KT J):=vL (kp a b c d e) (f32t10L N (jK Bg K) N a b c d e) (by kernel_rfl)
def f32t9 N a b c d e (K:KT J):=vB 0 Bg K (aZ.Z9 N a b c d e (K .nrm p9) (λf=>K .ret (kq f))) (f32t10 N a b c d e _) (by kernel_rfl)
def f32t7 N a b c d (K:KT J):=vQ (λk=>aZ.Z8 N a b c d k) (f32t8 N a b c d _) (bO λa e b c d=>f32t9 N a e b c d K)
def f32t60 N  (K:KT J):dL N 31 p9 f32lE K =
 aZ.Z60 N (λa=>K .ret (kq a)):=by kernel_rfl
def f32t6 N a b c d (K:KT J):=vQ (λk=>aZ.Z7 N a b c d k (λe=>K .ret (kq e))) (f32t7 N a b c d _) (f32t60 N K)
def f32t4 N a e b c d (K:KT J):=vQ (λk=>aZ.Z5 N a e b c d k (λf=>K .ret (kq f))) (f32t5 N a e b c d _) (dn λa b c d=>f32t6 N a b c d K)
def f32t2 N a b c (K:KT J):=vQ (λk=>aZ.Z3 N a b c k) (f32t3 N a b c _) (bO λd e a b c=>f32t4 N d e a b c K)
def f32t0 N a (K:KT J):=vQ (λk=>aZ.Z1 N a k) (f32t1 N a _) (bZ λb c d=>f32t2 N b c d K)
def f32ok(h:aZ.Spec):av Tryz.prog 32 Bc :=
 bu Tryz.func32 bq f32GOk (λN X K=>f32t0 N X.1 K) (by kernel_rfl) λX hb hp=>by obtain⟨a,_⟩:=X;obtain⟨N,h⟩:=h a hb.1;exact⟨N,Eq.trans (by kernel_rfl) (h N (Nat.le_refl N))⟩
def e32ok:av Tryz.prog 32 Bc:=f32ok aZ.ok
def IT:aW:=⟨[⟨.int .i64,false,false⟩,⟨.int .i64,false,false⟩,⟨.int .i64,false,false⟩],[⟨.bool,false,false⟩]⟩
def qa:aK:=⟨IT,none,λX=>((),((gB.g X.1 X.2.1 X.2.2.1),()))⟩
def IU:Gm:=bi
def f91GOk:aw Tryz.prog IU:=aw.nil
def f91lE:ab:=⟨[],[],[],[],[]⟩
def f91s0(a b c:Int):St:=be IT.ps (a,(b,(c,())))
def f91s1(a:Bool):St:=af [(6,xB a)] [] []
def f91l1:ab:=⟨[6],[],[],[],[]⟩
def f91B:Nat->Option ab:=az [(1000000,f91l1)]
abbrev f91j{J:Type}(N n:Nat)(U:St)(l:ab)(K:KT J):Option J:=an IU bm f91B N (a8 99 (bn Tryz.f91) n) .n U (ay (some l) K)
def f91t0 N a b c (K:KT J):f91j N 1 (f91s0 a b c) f91lE K =
 gB.Z0 N a b c (λd=>K .ret (f91s1 d)):=by kernel_rfl
def f91ok(h:gB.Spec):av Tryz.prog 91 qa :=
 bu Tryz.func91 bq f91GOk (λN X K=>f91t0 N X.1 X.2.1 X.2.2.1 K) (by kernel_rfl) λX hb hp=>by obtain⟨a,b,c,_⟩:=X;obtain⟨N,h⟩:=h a b c;exact⟨N,Eq.trans (by kernel_rfl) (h N (Nat.le_refl N))⟩
def wd:av Tryz.prog 91 qa:=f91ok gB.ok
def IV:aW:=⟨[⟨.int .i64,false,false⟩],[⟨.bool,false,false⟩]⟩
def Bh:aK:=⟨IV,none,λX=>((),((gC.g X.1),()))⟩
def IW:Gm:=aD bi 91 qa
def f142GOk:aw Tryz.prog IW:=(aw.nil).add wd (by kernel_rfl)
def f142lE:ab:=⟨[],[],[],[],[]⟩
def f142s0(a:Int):St:=be IV.ps (a,())
def f142s1(a:Bool):St:=af [(2,xB a)] [] []
def f142l1:ab:=⟨[2],[],[],[],[]⟩
def f142B:Nat->Option ab:=az [(1000000,f142l1)]
abbrev f142j{J:Type}(N n:Nat)(U:St)(l:ab)(K:KT J):Option J:=an IW bm f142B N (a8 99 (bn Tryz.f142) n) .n U (ay (some l) K)
def f142t0 N a (K:KT J):f142j N 1 (f142s0 a) f142lE K =
 gC.Z0 N a (λb=>K .ret (f142s1 b)):=by kernel_rfl
def f142ok(h:gC.Spec):av Tryz.prog 142 Bh :=
 bu Tryz.func142 bq f142GOk (λN X K=>f142t0 N X.1 K) (by kernel_rfl) λX hb hp=>by obtain⟨a,_⟩:=X;obtain⟨N,h⟩:=h a;exact⟨N,Eq.trans (by kernel_rfl) (h N (Nat.le_refl N))⟩
def e142ok:av Tryz.prog 142 Bh:=f142ok gC.ok
def IX:aW:=⟨[⟨.sl 3 (.int .i64),false,false⟩,⟨.fnc 142,false,false⟩],[⟨.int .i64,false,false⟩]⟩
def Bi:aK:=⟨IX,none,λX=>((),((ft.g X.1 X.2.1),()))⟩
def IY:Gm:=aD bi 142 Bh
def f174GOk:aw Tryz.prog IY:=(aw.nil).add e142ok (by kernel_rfl)
def f174lE:ab:=⟨[],[],[],[],[]⟩
def f174s0(a:LI)(b:Unit):St:=be IX.ps (a,(b,()))
def IZ(a:LI):St:=af [(0,.c (.sn 3 tI a none)),(1,.c (.fn 142 []))] [] []
def f174l1:ab:=⟨[0,1],[],[],[],[]⟩
def we(a:LI)(b d:Int):St:=af [(0,.c (.sn 3 tI a none)),(1,.c (.fn 142 [])),(7,xi b),(8,xi d)] [] []
def I0:ab:=⟨[0,1,7,8],[],[],[],[]⟩
def sW :St:=af [] [] []
def Bj:ab:=⟨[],[],[],[],[]⟩
def qb(a:Int):St:=af [(4,xi a)] [] []
def f174l4:ab:=⟨[4],[],[],[],[]⟩
def f174B:Nat->Option ab:=az [(0,Bj),(1000000,f174l4)]
abbrev wg{J:Type}(N n:Nat)(U:St)(l:ab)(K:KT J):Option J:=an IY bm f174B N (a8 99 (bn Tryz.f174) n) .n U (ay (some l) K)
def f174t1 N a b (K:KT J):wg N 2 (f174s0 a b) f174l1 K =
 ft.Z1 N a b (λa=>K .nrm (IZ a)):=by kernel_rfl
def f174t4 N a (K:KT J):wg N 9 (IZ a) I0 K =
 ft.Z4 N a (λa b c=>K .nrm (we a b c)):=by kernel_rfl
def f174t7 N a b c (K:KT J):wg N 37 (we a b c) I0 K =
 ft.Z7 N a b c (λa b c=>K .nrm (we a b c)) (K (.exit 0) sW) (λd=>K .ret (qb d)):=by kernel_rfl
def f174t6L N (K:KT J):=gS K (ft.Z6L N (K (.exit 0) sW) (λa=>K .ret (qb a))) (λb c d k=>ft.Z7 N b c d k (K (.exit 0) sW) (λa=>K .ret (qb a))) (λF b c d=>f174t7 N b c d _) (by kernel_rfl)
def f174t6 N a b c (K:KT J):=vL (we a b c) (f174t6L N (jK Bj K) N a b c) (by kernel_rfl)
def f174t5 N a b c (K:KT J):=vB 0 Bj K (ft.Z5 N a b c (K .nrm sW) (λd=>K .ret (qb d))) (f174t6 N a b c _) (by kernel_rfl)
def f174t3 N a (K:KT J):=vQ (λk=>ft.Z4 N a k) (f174t4 N a _) (bZ λa b c=>f174t5 N a b c K)
def f174t8 N  (K:KT J):wg N 7 sW f174lE K =
 ft.Z8 N (λa=>K .ret (qb a)):=by kernel_rfl
def f174t2 N a (K:KT J):=vQ (λk=>ft.Z3 N a k (λb=>K .ret (qb b))) (f174t3 N a _) (f174t8 N K)
def f174t0 N a b (K:KT J):=vQ (λk=>ft.Z1 N a b k) (f174t1 N a b _) (funext λa=>f174t2 N a K)
def f174ok(h:ft.Spec):av Tryz.prog 174 Bi :=
 bu Tryz.func174 bq f174GOk (λN X K=>f174t0 N X.1 X.2.1 K) (by kernel_rfl) λX hb hp=>by obtain⟨a,b,_⟩:=X;obtain⟨N,h⟩:=h a b hb.1;exact⟨N,Eq.trans (by kernel_rfl) (h N (Nat.le_refl N))⟩
def e174ok:av Tryz.prog 174 Bi:=f174ok ft.ok
def I1:aW:=⟨[⟨.sl 3 (.int .i64),false,false⟩,⟨.fnc 142,false,false⟩],[⟨.bool,false,false⟩]⟩
def Bk:aK:=⟨I1,none,λX=>((),((ln.g X.1 X.2.1),()))⟩
def I9:Gm:=aD bi 174 Bi
def f141GOk:aw Tryz.prog I9:=(aw.nil).add e174ok (by kernel_rfl)
def f141lE:ab:=⟨[],[],[],[],[]⟩
def f141s0(a:LI)(b:Unit):St:=be I1.ps (a,(b,()))
def f141s1(a:Bool):St:=af [(4,xB a)] [] []
def f141l1:ab:=⟨[4],[],[],[],[]⟩
def f141B:Nat->Option ab:=az [(1000000,f141l1)]
abbrev f141j{J:Type}(N n:Nat)(U:St)(l:ab)(K:KT J):Option J:=an I9 bm f141B N (a8 99 (bn Tryz.f141) n) .n U (ay (some l) K)
def f141t0 N a b (K:KT J):f141j N 1 (f141s0 a b) f141lE K =
 ln.Z0 N a b (λc=>K .ret (f141s1 c)):=by kernel_rfl
def f141ok(h:ln.Spec):av Tryz.prog 141 Bk :=
 bu Tryz.func141 bq f141GOk (λN X K=>f141t0 N X.1 X.2.1 K) (by kernel_rfl) λX hb hp=>by obtain⟨a,b,_⟩:=X;obtain⟨N,h⟩:=h a b hb.1;exact⟨N,Eq.trans (by kernel_rfl) (h N (Nat.le_refl N))⟩
def e141ok:av Tryz.prog 141 Bk:=f141ok ln.ok
def Ja:aW:=⟨[⟨.pair (.int .i64) (.pair (.int .i64) (.sl 3 (.int .i64))),true,false⟩],[⟨.bool,false,false⟩]⟩
def Bl:aK:=⟨Ja,none,λX=>((),((lq.g X.1),()))⟩
def Jb:Gm:=aD (aD bi 91 qa) 141 Bk
def f102GOk:aw Tryz.prog Jb:=((aw.nil).add wd (by kernel_rfl)).add e141ok (by kernel_rfl)
def f102lE:ab:=⟨[],[],[],[],[]⟩
def f102s0(a:MT):St:=be Ja.ps (a,())
def f102s1(a:Bool):St:=af [(2,xB a)] [] []
def f102l1:ab:=⟨[2],[],[],[],[]⟩
def f102B:Nat->Option ab:=az [(1000000,f102l1)]
abbrev f102j{J:Type}(N n:Nat)(U:St)(l:ab)(K:KT J):Option J:=an Jb bm f102B N (a8 99 (bn Tryz.f102) n) .n U (ay (some l) K)
def f102t0 N a (K:KT J):f102j N 1 (f102s0 a) f102lE K =
 lq.Z0 N a (λb=>K .ret (f102s1 b)):=by kernel_rfl
def f102ok(h:lq.Spec):av Tryz.prog 102 Bl :=
 bu Tryz.func102 bq f102GOk (λN X K=>f102t0 N X.1 K) (by kernel_rfl) λX hb hp=>by obtain⟨a,_⟩:=X;obtain⟨N,h⟩:=h a hb.1;exact⟨N,Eq.trans (by kernel_rfl) (h N (Nat.le_refl N))⟩
def e102ok:av Tryz.prog 102 Bl:=f102ok lq.ok
def Jc:aW:=⟨[⟨.pair (.int .i64) (.pair (.int .i64) (.sl 3 (.int .i64))),true,false⟩,⟨.int .i64,false,false⟩,⟨.int .i64,false,false⟩],[⟨.int .i64,false,false⟩]⟩
def ml:aK:=⟨Jc,(some λX=>cb.P X.1 X.2.1 X.2.2.1),λX=>((),((cb.g X.1 X.2.1 X.2.2.1),()))⟩
def Jd:Gm:=bi
def f83GOk:aw Tryz.prog Jd:=aw.nil
def f83lE:ab:=⟨[],[],[],[],[]⟩
def f83s0(a:MT)(b c:Int):St:=be Jc.ps (a,(b,(c,())))
def f83s1(a:Int):St:=af [(6,xi a)] [] []
def f83l1:ab:=⟨[6],[],[],[],[]⟩
def f83B:Nat->Option ab:=az [(1000000,f83l1)]
abbrev f83j{J:Type}(N n:Nat)(U:St)(l:ab)(K:KT J):Option J:=an Jd bm f83B N (a8 99 (bn Tryz.f83) n) .n U (ay (some l) K)
def f83t0 N a b c (K:KT J):f83j N 1 (f83s0 a b c) f83lE K =
 cb.Z0 N a b c (λd=>K .ret (f83s1 d)):=by kernel_rfl
def f83ok(h:cb.Spec):av Tryz.prog 83 ml :=
 bu Tryz.func83 bq f83GOk (λN X K=>f83t0 N X.1 X.2.1 X.2.2.1 K) (by kernel_rfl) λX hb hp=>by obtain⟨a,b,c,_⟩:=X;obtain⟨N,h⟩:=h a b c hb.1 hp;exact⟨N,Eq.trans (by kernel_rfl) (h N (Nat.le_refl N))⟩
def qc:av Tryz.prog 83 ml:=f83ok cb.ok
def Je:aW:=⟨[⟨.int .i64,false,false⟩,⟨.int .i64,false,false⟩],[⟨.int .i64,false,false⟩]⟩
def Bm:aK:=⟨Je,(some λX=>cZ.P X.1 X.2.1),λX=>((),((cZ.g X.1 X.2.1),()))⟩
def Jf:Gm:=bi
def f143GOk:aw Tryz.prog Jf:=aw.nil
def f143lE:ab:=⟨[],[],[],[],[]⟩
def f143s0(a b:Int):St:=be Je.ps (a,(b,()))
def wh(a b:Int):St:=af [(0,xi a),(1,xi b)] [] []
def Jg:ab:=⟨[0,1],[],[],[],[]⟩
def sX(a:Int):St:=af [(0,xi a)] [] []
def Bn:ab:=⟨[0],[],[],[],[]⟩
def f143s3(a:Int):St:=af [(4,xi a)] [] []
def f143l3:ab:=⟨[4],[],[],[],[]⟩
def f143B:Nat->Option ab:=az [(0,Bn),(1000000,f143l3)]
abbrev Bo{J:Type}(N n:Nat)(U:St)(l:ab)(K:KT J):Option J:=an Jf bm f143B N (a8 99 (bn Tryz.f143) n) .n U (ay (some l) K)
def f143t1 N a b (K:KT J):Bo N 2 (f143s0 a b) Jg K =
 cZ.Z1 N a b (λa b=>K .nrm (wh a b)):=by kernel_rfl
def f143t5 N a b (K:KT J):Bo N 17 (wh a b) Jg K =
 cZ.Z5 N a b (λa b=>K .nrm (wh a b)) (λa=>K (.exit 0) (sX a)):=by kernel_rfl
def f143t4L N (K:KT J):=uB K (cZ.Z4L N (λa=>K (.exit 0) (sX a))) (λa b k=>cZ.Z5 N a b k (λa=>K (.exit 0) (sX a))) (λF a b=>f143t5 N a b _) (by kernel_rfl)
def f143t4 N a b (K:KT J):=vL (wh a b) (f143t4L N (jK Bn K) N a b) (by kernel_rfl)
def f143t3 N a b (K:KT J):=vB 0 Bn K (cZ.Z3 N a b (λa=>K .nrm (sX a))) (f143t4 N a b _) (by kernel_rfl)
def f143t6 N a (K:KT J):Bo N 7 (sX a) f143lE K =
 cZ.Z6 N a (λb=>K .ret (f143s3 b)):=by kernel_rfl
def f143t2 N a b (K:KT J):=vQ (λk=>cZ.Z3 N a b k) (f143t3 N a b _) (funext λa=>f143t6 N a K)
def f143t0 N a b (K:KT J):=vQ (λk=>cZ.Z1 N a b k) (f143t1 N a b _) (cX λa b=>f143t2 N a b K)
def f143ok(h:cZ.Spec):av Tryz.prog 143 Bm :=
 bu Tryz.func143 bq f143GOk (λN X K=>f143t0 N X.1 X.2.1 K) (by kernel_rfl) λX hb hp=>by obtain⟨a,b,_⟩:=X;obtain⟨N,h⟩:=h a b hp;exact⟨N,Eq.trans (by kernel_rfl) (h N (Nat.le_refl N))⟩
def e143ok:av Tryz.prog 143 Bm:=f143ok cZ.ok
end Go.Fw
