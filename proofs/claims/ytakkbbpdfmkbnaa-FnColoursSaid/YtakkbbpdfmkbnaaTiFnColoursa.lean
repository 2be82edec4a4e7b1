/- The ties: the program's text comes to the plain functions. Nothing is assumed. -/
import Derived.Test.YtakkbbpdfmkbnaaFwc
import Derived.Test.YtakkbbpdfmkbnaaFwd
import Derived.Test.YtakkbbpdfmkbnaaProg
import Derived.Test.YtakkbbpdfmkbnaaPuFnColoursb
import Derived.Test.YtakkbbpdfmkbnaaPuFnColoursa
import Derived.Test.YtakkbbpdfmkbnaaPuFnColoursc
noncomputable section
set_option linter.defProp false
set_option linter.unusedSectionVars false
set_option linter.unusedVariables false
set_option linter.unusedSimpArgs false
set_option maxRecDepth 100000
namespace Go.Fw
open Go.Proofs
def bm:bc:=rK [
 (2,⟨false,.int .i64,[.int .i64 0],[],none,8⟩),
 (3,⟨false,.int .i64,[.int .i64 0],[],none,8⟩),
 (4,⟨false,.bool,[.bool false],[],none,1⟩),
 (5,⟨false,.int .u8,[.int .u8 0],[],none,1⟩),
 (6,⟨false,.int .u8,[.int .u8 0],[],none,1⟩),
 (7,⟨true,.pair (.int .i64) (.pair (.int .i64) (.pair (.bool) (.int .u8))),[.int .i64 0,.int .i64 0,.bool false,.int .u8 0],[(0,1,false),(1,1,false),(2,1,false),(3,1,false)],none,24⟩),
 (8,⟨true,.pair (.int .i64) (.pair (.int .i64) (.pair (.bool) (.int .u8))),[.int .i64 0,.int .i64 0,.bool false,.int .u8 0],[(0,1,false),(1,1,false),(2,1,false),(3,1,false)],none,24⟩),
 (9,⟨false,.str,[.str ByteArray.empty],[],none,16⟩),
 (10,⟨false,.str,[.str ByteArray.empty],[],none,16⟩),
 (11,⟨false,.str,[.str ByteArray.empty],[],none,16⟩),
 (12,⟨false,.int .u64,[.int .u64 0],[],none,8⟩),
 (13,⟨true,.pair (.str) (.int .u64),[.str ByteArray.empty,.int .u64 0],[(0,1,false),(1,1,false)],none,24⟩),
 (14,⟨true,.pair (.str) (.int .u64),[.str ByteArray.empty,.int .u64 0],[(0,1,false),(1,1,false)],none,24⟩),
 (20,⟨false,.err,[.err false],[],none,16⟩),
 (21,⟨false,.int .i32,[.int .i32 0],[],none,4⟩),
 (22,⟨false,.sl 5 (.int .u8),[.nil],[],some 5,24⟩),
 (24,⟨false,.sl 3 (.int .i64),[.nil],[],some 3,24⟩),
 (25,⟨true,.pair (.int .i64) (.pair (.int .i64) (.sl 3 (.int .i64))),[.int .i64 0,.int .i64 0,.nil],[(0,1,false),(1,1,false),(2,1,false)],none,40⟩),
 (26,⟨true,.pair (.int .i64) (.pair (.int .i64) (.sl 3 (.int .i64))),[.int .i64 0,.int .i64 0,.nil],[(0,1,false),(1,1,false),(2,1,false)],none,40⟩),
 (29,⟨false,.sl 24 (.sl 3 (.int .i64)),[.nil],[],some 24,24⟩),
 (41,⟨true,.pair (.int .i64) (.pair (.int .i64) (.sl 3 (.int .i64))),[.int .i64 0,.int .i64 0,.nil],[(0,1,false),(1,1,false),(2,1,false)],none,40⟩),
 (57,⟨false,.sl 89 (.pair (.int .i64) (.sl 103 (.pair (.sl 3 (.int .i64)) (.int .i64)))),[.nil],[],some 89,24⟩),
 (58,⟨true,.pair (.pair (.int .i64) (.pair (.int .i64) (.sl 3 (.int .i64)))) (.sl 89 (.pair (.int .i64) (.sl 103 (.pair (.sl 3 (.int .i64)) (.int .i64))))),[.int .i64 0,.int .i64 0,.nil,.nil],[(0,3,true),(3,1,false)],none,64⟩),
 (59,⟨true,.pair (.pair (.int .i64) (.pair (.int .i64) (.sl 3 (.int .i64)))) (.sl 89 (.pair (.int .i64) (.sl 103 (.pair (.sl 3 (.int .i64)) (.int .i64))))),[.int .i64 0,.int .i64 0,.nil,.nil],[(0,3,true),(3,1,false)],none,64⟩),
 (69,⟨false,.sl 26 (.pair (.int .i64) (.pair (.int .i64) (.sl 3 (.int .i64)))),[.nil],[],some 26,24⟩),
 (77,⟨true,.pair (.sl 24 (.sl 3 (.int .i64))) (.bool),[.nil,.bool false],[(0,1,false),(1,1,false)],none,32⟩),
 (78,⟨true,.pair (.sl 24 (.sl 3 (.int .i64))) (.bool),[.nil,.bool false],[(0,1,false),(1,1,false)],none,32⟩),
 (87,⟨false,.sl 103 (.pair (.sl 3 (.int .i64)) (.int .i64)),[.nil],[],some 103,24⟩),
 (88,⟨true,.pair (.int .i64) (.sl 103 (.pair (.sl 3 (.int .i64)) (.int .i64))),[.int .i64 0,.nil],[(0,1,false),(1,1,false)],none,32⟩),
 (89,⟨true,.pair (.int .i64) (.sl 103 (.pair (.sl 3 (.int .i64)) (.int .i64))),[.int .i64 0,.nil],[(0,1,false),(1,1,false)],none,32⟩),
 (93,⟨true,.pair (.sl 5 (.int .u8)) (.pair (.int .i64) (.int .i64)),[.nil,.int .i64 0,.int .i64 0],[(0,1,false),(1,1,false),(2,1,false)],none,40⟩),
 (94,⟨true,.pair (.sl 5 (.int .u8)) (.pair (.int .i64) (.int .i64)),[.nil,.int .i64 0,.int .i64 0],[(0,1,false),(1,1,false),(2,1,false)],none,40⟩),
 (102,⟨true,.pair (.sl 3 (.int .i64)) (.int .i64),[.nil,.int .i64 0],[(0,1,false),(1,1,false)],none,32⟩),
 (103,⟨true,.pair (.sl 3 (.int .i64)) (.int .i64),[.nil,.int .i64 0],[(0,1,false),(1,1,false)],none,32⟩),
 (109,⟨false,.sl 9 (.str),[.nil],[],some 9,24⟩),
 (118,⟨false,.int .u64,[.int .u64 0],[],none,8⟩),
 (127,⟨false,.int .u32,[.int .u32 0],[],none,4⟩),
 (128,⟨false,.int .u8,[.int .u8 0],[],none,1⟩),
 (129,⟨false,.int .u8,[.int .u8 0],[],none,1⟩),
 (132,⟨false,.int .i32,[.int .i32 0],[],none,4⟩),
 (133,⟨false,.int .i32,[.int .i32 0],[],none,4⟩)]
def bv:aX Try.prog bm:=aX.of (by kernel_rfl)
instance:Inv Try.prog:=Inv.triv _
end Go.Fw
namespace Go.Fw
variable {J : Type}
open Go.Proofs
def DI:bC:=⟨[⟨.sl 5 (.int .u8),false,false⟩],[⟨.bool,false,false⟩]⟩
def yH:a8:=⟨DI,none,λX=>((),((kw.g X.1),()))⟩
def DJ:Gm:=bk
def MU:au Try.prog DJ:=au.nil
def MV:aa:=⟨[],[],[],[],[]⟩
def MW(a:List Int):St:=bH DI.ps (a,())
def MX(a:Bool):St:=ah [(2,xB a)] [] []
def MY:aa:=⟨[2],[],[],[],[]⟩
def MZ:Nat->Option aa:=aA [(1000000,MY)]
abbrev M0{J:Type}(N n:Nat)(V:St)(l:aa)(K:KT J):Option J:=ak DJ bm MZ N (bf 99 (bu Try.f13) n) .n V (ax (some l) K)
def M3 N a (K:KT J):M0 N 1 (MW a) MV K =
 kw.Z0 N a (λb=>K .ret (MX b)):=by kernel_rfl
def M4(h:kw.Spec):aG Try.prog 13 yH :=
 bQ Try.func13 bv MU (λN X K=>M3 N X.1 K) (by kernel_rfl) λX hb hp=>by obtain⟨a,_⟩:=X;obtain⟨N,h⟩:=h a hb.1;exact⟨N,Eq.trans (by kernel_rfl) (h N (Nat.le_refl N))⟩
def M5:aG Try.prog 13 yH:=M4 kw.ok
def M6:cV:=⟨94,[(5,.int .u8)],.pair (.int .i64) (.int .i64)⟩
def DK:List PT:=[⟨.sl 5 (.int .u8),false,false⟩]
def yI:iC:=⟨M6,DK,none,λX=>(bS.g X.1)⟩
def DL:Gm:=bk
def M7:au Try.prog DL:=au.nil
def M8:aa:=⟨[],[],[],[],[]⟩
def M9(u0:Value)(a:List Int):St:=mz 5 (.int .u8) (DK.drop 1) u0 (a,())
def DM(u0:Value)(a:List Int):St:=ah [(0,.c (.bor u0 5 (.int .u8) a))] [] []
def Na:aa:=⟨[0],[],[],[],[]⟩
def mP(u0:Value)(a:List Int)(b:Int):St:=ah [(0,.c (.bor u0 5 (.int .u8) a)),(3,xi b)] [] []
def tW:aa:=⟨[0,3],[],[],[],[]⟩
def tX(u0:Value)(a:List Int)(b d:Int):St:=ah [(0,.c (.bor u0 5 (.int .u8) a)),(3,xi b),(4,xi d)] [] []
def DN:aa:=⟨[0,3,4],[],[],[],[]⟩
def Nb(u0:Value)(a:List Int)(b c:Int):St:=ah [(2,xb 31)] [(31,(94,[.bor u0 5 (.int .u8) a,yi b,yi c]))] []
def Nc:aa:=⟨[2],[31],[],[],[]⟩
def Nd:Nat->Option aa:=aA [(0,tW),(1000000,Nc)]
abbrev qS{J:Type}(N n:Nat)(V:St)(l:aa)(K:KT J):Option J:=ak DL bm Nd N (bf 99 (bu Try.f54) n) .n V (ax (some l) K)
def Nf N u0 a (K:KT J):qS N 2 (M9 u0 a) Na K =
 bS.Z1 N a (λa=>K .nrm (DM u0 a)):=by kernel_rfl
def Ng N u0 a (K:KT J):qS N 5 (DM u0 a) tW K =
 bS.Z3 N a (λa b=>K .nrm (mP u0 a b)):=by kernel_rfl
def Nh N u0 a b (K:KT J):qS N 19 (mP u0 a b) DN K =
 bS.Z6 N a b (λa b c=>K .nrm (tX u0 a b c)):=by kernel_rfl
def Ni N u0 a b c (K:KT J):qS N 75 (tX u0 a b c) DN K =
 bS.Z9 N a b c (λa b c=>K .nrm (tX u0 a b c)) (λa b=>K (.exit 0) (mP u0 a b)):=by kernel_rfl
def Nj N u0 (K:KT J):=mA K (bS.Z8L N (λa b=>K (.exit 0) (mP u0 a b))) (λa b c k=>bS.Z9 N a b c k (λa b=>K (.exit 0) (mP u0 a b))) (λF a b c=>Ni N u0 a b c _) (by kernel_rfl)
def Nk N u0 a b c (K:KT J):=vL (tX u0 a b c) (Nj N u0 (jK tW K) N a b c) (by kernel_rfl)
def Nl N u0 a b c (K:KT J):=vB 0 tW K (bS.Z7 N a b c (λa b=>K .nrm (mP u0 a b))) (Nk N u0 a b c _) (by kernel_rfl)
def Nm N u0 a b (K:KT J):=vQ (λk=>bS.Z6 N a b k) (Nh N u0 a b _) (fG λa b c=>Nl N u0 a b c K)
def Nn N u0 a b (K:KT J):qS N 15 (mP u0 a b) M8 K =
 bS.Z10 N a b (λc d e=>K .ret (Nb u0 c d e)):=by kernel_rfl
def No N u0 a b (K:KT J):=vQ (λk=>bS.Z5 N a b k) (Nm N u0 a b _) (gz λa b=>Nn N u0 a b K)
def Np N u0 a (K:KT J):=vQ (λk=>bS.Z3 N a k) (Ng N u0 a _) (gz λa b=>No N u0 a b K)
def Nq N u0 a (K:KT J):=vQ (λk=>bS.Z1 N a k) (Nf N u0 a _) (funext λa=>Np N u0 a K)
def Nr(h:bS.Spec):kI Try.prog 54 yI :=
 JT Try.func54 bv M7 (λN u X K=>Nq N u X.1 K) (by kernel_rfl) λu0 X hb2 hp=>by obtain⟨a,_⟩:=X;obtain⟨N,h⟩:=h [u0] a hb2.1;exact⟨N,Eq.trans (by kernel_rfl) (h N (Nat.le_refl N))⟩
def Ns:kI Try.prog 54 yI:=Nr bS.ok
def DO:cV:=⟨94,[(5,.int .u8)],.pair (.int .i64) (.int .i64)⟩
def DP:List PT:=[]
def Nt:List PT:=[⟨.int .i64,false,false⟩]
def yJ:d7:=⟨DO,DP,true,Nt,(some λX=>aO.P X.1.1.1 X.1.2),λX=>((aO.g X.1.1.1 X.1.2).1,((),((aO.g X.1.1.1 X.1.2).2,())))⟩
def DQ:Gm:=bk
def Nu:au Try.prog DQ:=au.nil
def Nv:aa:=⟨[],[],[],[],[]⟩
def Nw(u0:Value)(b0:List Int)(r0:Int×Int):St:=dH DO DP [u0] (((b0,()),r0),())
def Nx(u0:Value)(a:Int)(b:List Int)(c d:Int):St:=ah [(2,xi a),(100000,xb 100000)] [(100000,(94,[.bor u0 5 (.int .u8) b,yi c,yi d]))] []
def Ny:aa:=⟨[2,100000],[100000],[],[],[]⟩
def Nz:Nat->Option aa:=aA [(1000000,Ny)]
abbrev NA{J:Type}(N n:Nat)(V:St)(l:aa)(K:KT J):Option J:=ak DQ bm Nz N (bf 99 (bu Try.f112) n) .n V (ax (some l) K)
def NB N u0 b0 r0 (K:KT J):NA N 1 (Nw u0 b0 r0) Nv K =
 aO.Z0 N b0 r0 (λa b c d=>K .ret (Nx u0 a b c d)):=by kernel_rfl
def NC(h:aO.Spec):dv Try.prog 112 yJ :=
 jZ Try.func112 bv Nu (λN u X K=>NB N u X.1.1.1 X.1.2 K) (by kernel_rfl) λu0 X hb1 hb2 hp=>by obtain⟨⟨⟨b0,_⟩,r0⟩,_⟩:=X;obtain⟨N,h⟩:=h [u0] b0 r0 hb1.1 hp;exact⟨N,Eq.trans (by kernel_rfl) (h N (Nat.le_refl N))⟩
def ND:dv Try.prog 112 yJ:=NC aO.ok
def DR:cV:=⟨94,[(5,.int .u8)],.pair (.int .i64) (.int .i64)⟩
def DS:List PT:=[⟨.int .i64,false,false⟩]
def NE:List PT:=[⟨.int .i64,false,false⟩]
def mQ:d7:=⟨DR,DS,true,NE,(some λX=>ao.P X.1.1.1 X.1.2 X.2.1),λX=>((ao.g X.1.1.1 X.1.2 X.2.1).1,((),((ao.g X.1.1.1 X.1.2 X.2.1).2,())))⟩
def DT:Gm:=addV bk 112 yJ
def NF:au Try.prog DT:=(au.nil).addV ND (by kernel_rfl)
def NG:aa:=⟨[],[],[],[],[]⟩
def NH(u0:Value)(b0:List Int)(r0:Int×Int)(a:Int):St:=dH DR DS [u0] (((b0,()),r0),(a,()))
def NI(u0:Value)(a:Int)(b:List Int)(c d:Int):St:=ah [(4,xi a),(100000,xb 100000)] [(100000,(94,[.bor u0 5 (.int .u8) b,yi c,yi d]))] []
def NJ:aa:=⟨[4,100000],[100000],[],[],[]⟩
def NK:Nat->Option aa:=aA [(1000000,NJ)]
abbrev NL{J:Type}(N n:Nat)(V:St)(l:aa)(K:KT J):Option J:=ak DT bm NK N (bf 99 (bu Try.f94) n) .n V (ax (some l) K)
def NM N u0 b0 r0 a (K:KT J):NL N 1 (NH u0 b0 r0 a) NG K =
 ao.Z0 N b0 r0 a (λb c d e=>K .ret (NI u0 b c d e)):=by kernel_rfl
def NN(h:ao.Spec):dv Try.prog 94 mQ :=
 jZ Try.func94 bv NF (λN u X K=>NM N u X.1.1.1 X.1.2 X.2.1 K) (by kernel_rfl) λu0 X hb1 hb2 hp=>by obtain⟨⟨⟨b0,_⟩,r0⟩,a,_⟩:=X;obtain⟨N,h⟩:=h [u0] b0 r0 a hb1.1 hp;exact⟨N,Eq.trans (by kernel_rfl) (h N (Nat.le_refl N))⟩
def qT:dv Try.prog 94 mQ:=NN ao.ok
def DU:bC:=⟨[⟨.int .i64,false,false⟩],[⟨.pair (.int .i64) (.pair (.int .i64) (.sl 3 (.int .i64))),true,false⟩]⟩
def yK:a8:=⟨DU,(some λX=>aD.P X.1),λX=>((),((aD.g X.1),()))⟩
def DV:Gm:=bk
def NO:au Try.prog DV:=au.nil
def NQ:aa:=⟨[],[],[],[],[]⟩
def NR(a:Int):St:=bH DU.ps (a,())
def NS(a:LI)(b c:Int):St:=ah [(2,xb 2)] [(2,(26,[yi b,yi c,.own 20000130]))] [(20000130,(⟨3,.int .i64,a,true,false⟩:ac))]
def NT:aa:=⟨[2],[2],[],[],[(⟨true,2,2⟩,20000130)]⟩
def NU:Nat->Option aa:=aA [(1000000,NT)]
abbrev NV{J:Type}(N n:Nat)(V:St)(l:aa)(K:KT J):Option J:=ak DV bm NU N (bf 99 (bu Try.f108) n) .n V (ax (some l) K)
def NW N a (K:KT J):NV N 1 (NR a) NQ K =
 aD.Z0 N a (λb c d=>K .ret (NS b c d)):=by kernel_rfl
def NX(h:aD.Spec):aG Try.prog 108 yK :=
 bQ Try.func108 bv NO (λN X K=>NW N X.1 K) (by kernel_rfl) λX hb hp=>by obtain⟨a,_⟩:=X;obtain⟨N,h⟩:=h a hp;exact⟨N,Eq.trans (by kernel_rfl) (h N (Nat.le_refl N))⟩
def NY:aG Try.prog 108 yK:=NX aD.ok
def DW:cV:=⟨94,[(5,.int .u8)],.pair (.int .i64) (.int .i64)⟩
def DX:List PT:=[⟨.int .i64,false,false⟩]
def NZ:List PT:=[⟨.bool,false,false⟩]
def yL:d7:=⟨DW,DX,true,NZ,(some λX=>cO.P X.1.1.1 X.1.2 X.2.1),λX=>((cO.g X.1.1.1 X.1.2 X.2.1).1,((),((cO.g X.1.1.1 X.1.2 X.2.1).2,())))⟩
def DY:Gm:=addV bk 94 mQ
def N1:au Try.prog DY:=(au.nil).addV qT (by kernel_rfl)
def N2:aa:=⟨[],[],[],[],[]⟩
def N3(u0:Value)(b0:List Int)(r0:Int×Int)(a:Int):St:=dH DW DX [u0] (((b0,()),r0),(a,()))
def N4(u0:Value)(a:Bool)(b:List Int)(c d:Int):St:=ah [(4,xB a),(100000,xb 100000)] [(100000,(94,[.bor u0 5 (.int .u8) b,yi c,yi d]))] []
def N5:aa:=⟨[4,100000],[100000],[],[],[]⟩
def N6:Nat->Option aa:=aA [(1000000,N5)]
abbrev N7{J:Type}(N n:Nat)(V:St)(l:aa)(K:KT J):Option J:=ak DY bm N6 N (bf 99 (bu Try.f120) n) .n V (ax (some l) K)
def N8 N u0 b0 r0 a (K:KT J):N7 N 1 (N3 u0 b0 r0 a) N2 K =
 cO.Z0 N b0 r0 a (λb c d e=>K .ret (N4 u0 b c d e)):=by kernel_rfl
def N9(h:cO.Spec):dv Try.prog 120 yL :=
 jZ Try.func120 bv N1 (λN u X K=>N8 N u X.1.1.1 X.1.2 X.2.1 K) (by kernel_rfl) λu0 X hb1 hb2 hp=>by obtain⟨⟨⟨b0,_⟩,r0⟩,a,_⟩:=X;obtain⟨N,h⟩:=h [u0] b0 r0 a hb1.1 hp;exact⟨N,Eq.trans (by kernel_rfl) (h N (Nat.le_refl N))⟩
def Oa:dv Try.prog 120 yL:=N9 cO.ok
def DZ:cV:=⟨94,[(5,.int .u8)],.pair (.int .i64) (.int .i64)⟩
def D0:List PT:=[⟨.pair (.int .i64) (.pair (.int .i64) (.sl 3 (.int .i64))),true,true⟩,⟨.int .i64,false,false⟩,⟨.int .i64,false,false⟩,⟨.int .i64,false,false⟩,⟨.int .i64,false,false⟩]
def Ob:List PT:=[]
def yM:d7:=⟨DZ,D0,true,Ob,(some λX=>aV.P X.1.1.1 X.1.2 X.2.1 X.2.2.1 X.2.2.2.1 X.2.2.2.2.1 X.2.2.2.2.2.1),λX=>((aV.g X.1.1.1 X.1.2 X.2.1 X.2.2.1 X.2.2.2.1 X.2.2.2.2.1 X.2.2.2.2.2.1).1,((aV.g X.1.1.1 X.1.2 X.2.1 X.2.2.1 X.2.2.2.1 X.2.2.2.2.1 X.2.2.2.2.2.1).2,()))⟩
def D1:Gm:=addV bk 120 yL
def Oc:au Try.prog D1:=(au.nil).addV Oa (by kernel_rfl)
def Od(u0:Value)(b0:List Int)(r0:Int×Int)(a:MT)(b c d e:Int):St:=dH DZ D0 [u0] (((b0,()),r0),(a,(b,(c,(d,(e,()))))))
def Oe(u0:Value)(a:LI)(b c:Int)(d:List Int)(e f:Int):St:=ah [(100000,xb 100000),(100001,.agg [yi b,yi c,.own 7400066])] [(100000,(94,[.bor u0 5 (.int .u8) d,yi e,yi f]))] [(7400066,(⟨3,.int .i64,a,true,false⟩:ac))]
def Of:aa:=⟨[100000,100001],[100000],[],[],[(⟨false,100001,2⟩,7400066)]⟩
def Og:Nat->Option aa:=aA []
abbrev Oh{J:Type}(N n:Nat)(V:St)(l:aa)(K:KT J):Option J:=ak D1 bm Og N (bf 99 (bu Try.f109) n) .n V (ax (some l) K)
def Oi N u0 b0 r0 a b c d e (K:KT J):Oh N 1 (Od u0 b0 r0 a b c d e) Of K =
 aV.Z0 N b0 r0 a b c d e (λf g h i j l=>K .nrm (Oe u0 f g h i j l)):=by kernel_rfl
def Oj(h:aV.Spec):dv Try.prog 109 yM :=
 jZ Try.func109 bv Oc (λN u X K=>Oi N u X.1.1.1 X.1.2 X.2.1 X.2.2.1 X.2.2.2.1 X.2.2.2.2.1 X.2.2.2.2.2.1 K) (by kernel_rfl) λu0 X hb1 hb2 hp=>by obtain⟨⟨⟨b0,_⟩,r0⟩,a,b,c,d,e,_⟩:=X;obtain⟨N,h⟩:=h [u0] b0 r0 a b c d e hb1.1 hb2.1 hp;exact⟨N,Eq.trans (by kernel_rfl) (h N (Nat.le_refl N))⟩
def Ok:dv Try.prog 109 yM:=Oj aV.ok
def D2:bC:=⟨[⟨.int .i64,false,false⟩],[⟨.str,false,false⟩]⟩
def yN:a8:=⟨D2,(some λX=>bM.P X.1),λX=>((),((bM.g X.1),()))⟩
def D3:Gm:=bk
def Ol:au Try.prog D3:=au.nil
def Om:aa:=⟨[],[],[],[],[]⟩
def On(a:Int):St:=bH D2.ps (a,())
def D4(a:Int):St:=ah [(0,xi a)] [] []
def Oo:aa:=⟨[0],[],[],[],[]⟩
def mR(a:List Int)(b:Int):St:=ah [(0,xi b),(3,xo 1000192)] [] [(1000192,(⟨5,.int .u8,a,true,false⟩:ac))]
def tY:aa:=⟨[0,3],[],[],[],[(⟨false,3,0⟩,1000192)]⟩
def tZ(a:List Int)(b c:Int):St:=ah [(0,xi b),(3,xo 1000192),(4,xi c)] [] [(1000192,(⟨5,.int .u8,a,true,false⟩:ac))]
def D5:aa:=⟨[0,3,4],[],[],[],[(⟨false,3,0⟩,1000192)]⟩
def D6(a b:List Int)(c:Int):St:=ah [(0,xi c),(3,xo 1000192),(6,xo 1000384)] [] [(1000192,(⟨5,.int .u8,a,true,false⟩:ac)),(1000384,(⟨5,.int .u8,b,true,false⟩:ac))]
def Oq:aa:=⟨[0,3,6],[],[],[],[(⟨false,3,0⟩,1000192),(⟨false,6,0⟩,1000384)]⟩
def D7(a b:List Int):St:=ah [(3,xo 1000192),(6,xo 1000384)] [] [(1000192,(⟨5,.int .u8,a,true,false⟩:ac)),(1000384,(⟨5,.int .u8,b,true,false⟩:ac))]
def Ot:aa:=⟨[3,6],[],[],[],[(⟨false,3,0⟩,1000192),(⟨false,6,0⟩,1000384)]⟩
def t6(a b:List Int)(c:Int):St:=ah [(3,xo 1000192),(6,xo 1000384),(7,xi c)] [] [(1000192,(⟨5,.int .u8,a,true,false⟩:ac)),(1000384,(⟨5,.int .u8,b,true,false⟩:ac))]
def D8:aa:=⟨[3,6,7],[],[],[],[(⟨false,3,0⟩,1000192),(⟨false,6,0⟩,1000384)]⟩
def qU(a:List Int):St:=ah [(6,xo 1000384)] [] [(1000384,(⟨5,.int .u8,a,true,false⟩:ac))]
def yO:aa:=⟨[6],[],[],[],[(⟨false,6,0⟩,1000384)]⟩
def Ou(a:ByteArray):St:=ah [(2,.c (.str a))] [] []
def Ov:aa:=⟨[2],[],[],[],[]⟩
def Ow:Nat->Option aa:=aA [(0,tY),(2,yO),(1000000,Ov)]
abbrev kb{J:Type}(N n:Nat)(V:St)(l:aa)(K:KT J):Option J:=ak D3 bm Ow N (bf 99 (bu Try.f110) n) .n V (ax (some l) K)
def Ox N a (K:KT J):kb N 2 (On a) Oo K =
 bM.Z1 N a (λa=>K .nrm (D4 a)):=by kernel_rfl
def Oy N a (K:KT J):kb N 5 (D4 a) tY K =
 bM.Z3 N a (λb a=>K .nrm (mR b a)):=by kernel_rfl
def Oz N a b (K:KT J):kb N 11 (mR a b) D5 K =
 bM.Z5 N a b (λa b c=>K .nrm (tZ a b c)):=by kernel_rfl
def OA N a b c (K:KT J):kb N 71 (tZ a b c) D5 K =
 bM.Z9 N a b c (λa b c=>K .nrm (tZ a b c)) (λa b=>K (.exit 0) (mR a b)):=by kernel_rfl
def OB N (K:KT J):=mA K (bM.Z8L N (λa b=>K (.exit 0) (mR a b))) (λa b c k=>bM.Z9 N a b c k (λa b=>K (.exit 0) (mR a b))) (λF a b c=>OA N a b c _) (by kernel_rfl)
def OC N a b c (K:KT J):=vL (tZ a b c) (OB N (jK tY K) N a b c) (by kernel_rfl)
def OD N a b c (K:KT J):=vB 0 tY K (bM.Z7 N a b c (λa b=>K .nrm (mR a b))) (OC N a b c _) (by kernel_rfl)
def OE N a b (K:KT J):kb N 47 (mR a b) Oq K =
 bM.Z11 N a b (λa c b=>K .nrm (D6 a c b)):=by kernel_rfl
def OF N a b c (K:KT J):kb N 95 (D6 a b c) Ot K =
 bM.Z13 N a b c (λa b=>K .nrm (D7 a b)):=by kernel_rfl
def OG N a b (K:KT J):kb N 319 (D7 a b) D8 K =
 bM.Z16 N a b (λa b c=>K .nrm (t6 a b c)):=by kernel_rfl
def OH N b a c (K:KT J):kb N 1215 (t6 b a c) D8 K =
 bM.Z19 N b a c (λb a c=>K .nrm (t6 b a c)) (λa=>K (.exit 2) (qU a)):=by kernel_rfl
def OI N (K:KT J):=mA K (bM.Z18L N (λa=>K (.exit 2) (qU a))) (λb a c k=>bM.Z19 N b a c k (λa=>K (.exit 2) (qU a))) (λF b a c=>OH N b a c _) (by kernel_rfl)
def OJ N a b c (K:KT J):=vL (t6 a b c) (OI N (jK yO K) N a b c) (by kernel_rfl)
def OK N b a c (K:KT J):=vB 2 yO K (bM.Z17 N b a c (λa=>K .nrm (qU a))) (OJ N b a c _) (by kernel_rfl)
def OL N a b (K:KT J):=vQ (λk=>bM.Z16 N a b k) (OG N a b _) (fG λa b c=>OK N a b c K)
def OM N a (K:KT J):kb N 255 (qU a) Om K =
 bM.Z20 N a (λb=>K .ret (Ou b)):=by kernel_rfl
def ON N b a (K:KT J):=vQ (λk=>bM.Z15 N b a k) (OL N b a _) (funext λa=>OM N a K)
def OO N a b c (K:KT J):=vQ (λk=>bM.Z13 N a b c k) (OF N a b c _) (gz λa b=>ON N a b K)
def OP N a b (K:KT J):=vQ (λk=>bM.Z11 N a b k) (OE N a b _) (fG λa c b=>OO N a c b K)
def OQ N a b c (K:KT J):=vQ (λk=>bM.Z7 N a b c k) (OD N a b c _) (gz λa b=>OP N a b K)
def OR N a b (K:KT J):=vQ (λk=>bM.Z5 N a b k) (Oz N a b _) (fG λa b c=>OQ N a b c K)
def OS N a (K:KT J):=vQ (λk=>bM.Z3 N a k) (Oy N a _) (gz λb a=>OR N b a K)
def OT N a (K:KT J):=vQ (λk=>bM.Z1 N a k) (Ox N a _) (funext λa=>OS N a K)
def OU(h:bM.Spec):aG Try.prog 110 yN :=
 bQ Try.func110 bv Ol (λN X K=>OT N X.1 K) (by kernel_rfl) λX hb hp=>by obtain⟨a,_⟩:=X;obtain⟨N,h⟩:=h a hp;exact⟨N,Eq.trans (by kernel_rfl) (h N (Nat.le_refl N))⟩
def OV:aG Try.prog 110 yN:=OU bM.ok
def D9:cV:=⟨94,[(5,.int .u8)],.pair (.int .i64) (.int .i64)⟩
def Ea:List PT:=[⟨.int .i64,false,false⟩]
def OW:List PT:=[⟨.pair (.int .i64) (.pair (.int .i64) (.sl 3 (.int .i64))),true,false⟩,⟨.str,false,false⟩]
def yP:d7:=⟨D9,Ea,true,OW,(some λX=>spec_dTree.P X.1.1.1 X.1.2 X.2.1),λX=>((spec_dTree.g X.1.1.1 X.1.2 X.2.1).1,((),((spec_dTree.g X.1.1.1 X.1.2 X.2.1).2.1,((spec_dTree.g X.1.1.1 X.1.2 X.2.1).2.2,()))))⟩
def Eb:Gm:=aY (addV (aY (addV bk 94 mQ) 108 yK) 109 yM) 110 yN
def OX:au Try.prog Eb:=((((au.nil).addV qT (by kernel_rfl)).add NY (by kernel_rfl)).addV Ok (by kernel_rfl)).add OV (by kernel_rfl)
def OY:aa:=⟨[],[],[],[],[]⟩
def OZ(u0:Value)(b0:List Int)(r0:Int×Int)(a:Int):St:=dH D9 Ea [u0] (((b0,()),r0),(a,()))
def Ec(u0:Value)(a:Int)(b:List Int)(c d e f:Int):St:=ah [(0,xb 100000),(1,xi a),(4,xb 4),(100000,xb 100000)] [(100000,(94,[.bor u0 5 (.int .u8) b,yi c,yi d])),(4,(26,[yi e,yi f,.nil]))] []
def O0:aa:=⟨[0,1,4,100000],[100000,4],[],[],[]⟩
def Ed(u0:Value)(a b:Int)(c:List Int)(d e f g:Int):St:=ah [(0,xb 100000),(1,xi a),(4,xb 4),(6,xi b),(100000,xb 100000)] [(100000,(94,[.bor u0 5 (.int .u8) c,yi d,yi e])),(4,(26,[yi f,yi g,.nil]))] []
def O1:aa:=⟨[0,1,4,6,100000],[100000,4],[],[],[]⟩
def t7(u0:Value)(a b c:Int)(d:List Int)(e f g h:Int):St:=ah [(0,xb 100000),(1,xi a),(4,xb 4),(6,xi b),(7,xi c),(100000,xb 100000)] [(100000,(94,[.bor u0 5 (.int .u8) d,yi e,yi f])),(4,(26,[yi g,yi h,.nil]))] []
def Ee:aa:=⟨[0,1,4,6,7,100000],[100000,4],[],[],[]⟩
def Ef(u0:Value)(a b:Int)(c:List Int)(d e f g:Int):St:=ah [(0,xb 100000),(4,xb 4),(6,xi a),(7,xi b),(100000,xb 100000)] [(100000,(94,[.bor u0 5 (.int .u8) c,yi d,yi e])),(4,(26,[yi f,yi g,.nil]))] []
def O3:aa:=⟨[0,4,6,7,100000],[100000,4],[],[],[]⟩
def Eg(u0:Value)(a b c:Int)(d:List Int)(e f g h:Int):St:=ah [(0,xb 100000),(4,xb 4),(6,xi a),(7,xi b),(64,xi c),(100000,xb 100000)] [(100000,(94,[.bor u0 5 (.int .u8) d,yi e,yi f])),(4,(26,[yi g,yi h,.nil]))] []
def O4:aa:=⟨[0,4,6,7,64,100000],[100000,4],[],[],[]⟩
def yQ(u0:Value)(a b c:Int)(d:Bool)(e:List Int)(f g h i:Int):St:=ah [(0,xb 100000),(4,xb 4),(6,xi a),(7,xi b),(64,xi c),(65,xB d),(100000,xb 100000)] [(100000,(94,[.bor u0 5 (.int .u8) e,yi f,yi g])),(4,(26,[yi h,yi i,.nil]))] []
def O5:aa:=⟨[0,4,6,7,64,65,100000],[100000,4],[],[],[]⟩
def mS(u0:Value)(a:LI)(b c:Int)(d:List Int)(e f g h i j:Int):St:=ah [(0,xb 100000),(4,xb 4),(6,xi b),(7,xi c),(8,xb 8),(100000,xb 100000)] [(100000,(94,[.bor u0 5 (.int .u8) d,yi e,yi f])),(4,(26,[yi g,yi h,.nil])),(8,(26,[yi i,yi j,.own 20000514]))] [(20000514,(⟨3,.int .i64,a,true,false⟩:ac))]
def t8:aa:=⟨[0,4,6,7,8,100000],[100000,4,8],[],[],[(⟨true,8,2⟩,20000514)]⟩
def t9(u0:Value)(a:LI)(b c d:Int)(e:List Int)(f g h i j l:Int):St:=ah [(0,xb 100000),(4,xb 4),(6,xi b),(7,xi c),(8,xb 8),(9,xi d),(100000,xb 100000)] [(100000,(94,[.bor u0 5 (.int .u8) e,yi f,yi g])),(4,(26,[yi h,yi i,.nil])),(8,(26,[yi j,yi l,.own 20000514]))] [(20000514,(⟨3,.int .i64,a,true,false⟩:ac))]
def Eh:aa:=⟨[0,4,6,7,8,9,100000],[100000,4,8],[],[],[(⟨true,8,2⟩,20000514)]⟩
def yR(u0:Value)(a b:Int)(c:Bool)(d:List Int)(e f g h:Int):St:=ah [(0,xb 100000),(4,xb 4),(7,xi a),(64,xi b),(110,xB c),(100000,xb 100000)] [(100000,(94,[.bor u0 5 (.int .u8) d,yi e,yi f])),(4,(26,[yi g,yi h,.nil]))] []
def O6:aa:=⟨[0,4,7,64,110,100000],[100000,4],[],[],[]⟩
def yS(u0:Value)(a b:Int)(c:Bool)(d:List Int)(e f g h:Int):St:=ah [(0,xb 100000),(4,xb 4),(7,xi a),(64,xi b),(119,xB c),(100000,xb 100000)] [(100000,(94,[.bor u0 5 (.int .u8) d,yi e,yi f])),(4,(26,[yi g,yi h,.nil]))] []
def O7:aa:=⟨[0,4,7,64,119,100000],[100000,4],[],[],[]⟩
def yT(u0:Value)(a b:Int)(c:Bool)(d:List Int)(e f g h:Int):St:=ah [(0,xb 100000),(4,xb 4),(7,xi a),(64,xi b),(126,xB c),(100000,xb 100000)] [(100000,(94,[.bor u0 5 (.int .u8) d,yi e,yi f])),(4,(26,[yi g,yi h,.nil]))] []
def O8:aa:=⟨[0,4,7,64,126,100000],[100000,4],[],[],[]⟩
def Ei(u0:Value)(a:LI)(b:List Int)(c d e f g h:Int):St:=ah [(0,xb 100000),(4,xb 4),(12,xb 12),(100000,xb 100000)] [(100000,(94,[.bor u0 5 (.int .u8) b,yi c,yi d])),(4,(26,[yi e,yi f,.nil])),(12,(26,[yi g,yi h,.own 20000770]))] [(20000770,(⟨3,.int .i64,a,true,false⟩:ac))]
def O9:aa:=⟨[0,4,12,100000],[100000,4,12],[],[],[(⟨true,12,2⟩,20000770)]⟩
def ua(u0:Value)(a:LI)(b:Int)(c:List Int)(d e f g h i:Int):St:=ah [(0,xb 100000),(4,xb 4),(12,xb 12),(13,xi b),(100000,xb 100000)] [(100000,(94,[.bor u0 5 (.int .u8) c,yi d,yi e])),(4,(26,[yi f,yi g,.nil])),(12,(26,[yi h,yi i,.own 20000770]))] [(20000770,(⟨3,.int .i64,a,true,false⟩:ac))]
def Ej:aa:=⟨[0,4,12,13,100000],[100000,4,12],[],[],[(⟨true,12,2⟩,20000770)]⟩
def qV(u0:Value)(a:LI)(b c d e:Int)(f:List Int)(g h:Int):St:=ah [(4,xb 4),(12,xb 12),(100000,xb 100000)] [(4,(26,[yi b,yi c,.nil])),(12,(26,[yi d,yi e,.own 20000770])),(100000,(94,[.bor u0 5 (.int .u8) f,yi g,yi h]))] [(20000770,(⟨3,.int .i64,a,true,false⟩:ac))]
def yU:aa:=⟨[4,12,100000],[4,12,100000],[],[],[(⟨true,12,2⟩,20000770)]⟩
def yV(u0:Value)(a:Int)(b:List Int)(c d e f:Int):St:=ah [(0,xb 100000),(4,xb 4),(7,xi a),(100000,xb 100000)] [(100000,(94,[.bor u0 5 (.int .u8) b,yi c,yi d])),(4,(26,[yi e,yi f,.nil]))] []
def mT:aa:=⟨[0,4,7,100000],[100000,4],[],[],[]⟩
def Ek(u0:Value)(a:LI)(b:Int)(c:List Int)(d e f g h i:Int):St:=ah [(0,xb 100000),(4,xb 4),(7,xi b),(16,xb 16),(100000,xb 100000)] [(100000,(94,[.bor u0 5 (.int .u8) c,yi d,yi e])),(4,(26,[yi f,yi g,.nil])),(16,(26,[yi h,yi i,.own 20001026]))] [(20001026,(⟨3,.int .i64,a,true,false⟩:ac))]
def Pa:aa:=⟨[0,4,7,16,100000],[100000,4,16],[],[],[(⟨true,16,2⟩,20001026)]⟩
def ub(u0:Value)(a:LI)(b c:Int)(d:List Int)(e f g h i j:Int):St:=ah [(0,xb 100000),(4,xb 4),(7,xi b),(16,xb 16),(17,xi c),(100000,xb 100000)] [(100000,(94,[.bor u0 5 (.int .u8) d,yi e,yi f])),(4,(26,[yi g,yi h,.nil])),(16,(26,[yi i,yi j,.own 20001026]))] [(20001026,(⟨3,.int .i64,a,true,false⟩:ac))]
def El:aa:=⟨[0,4,7,16,17,100000],[100000,4,16],[],[],[(⟨true,16,2⟩,20001026)]⟩
def qW(u0:Value)(a:LI)(b c d e f:Int)(g:List Int)(h i:Int):St:=ah [(4,xb 4),(7,xi b),(16,xb 16),(100000,xb 100000)] [(4,(26,[yi c,yi d,.nil])),(16,(26,[yi e,yi f,.own 20001026])),(100000,(94,[.bor u0 5 (.int .u8) g,yi h,yi i]))] [(20001026,(⟨3,.int .i64,a,true,false⟩:ac))]
def yW:aa:=⟨[4,7,16,100000],[4,16,100000],[],[],[(⟨true,16,2⟩,20001026)]⟩
def lu(u0:Value)(a:LI)(b:ByteArray)(d e:Int)(f:List Int)(g h:Int):St:=ah [(4,xb 4),(5,.c (.str b)),(100000,xb 100000)] [(4,(26,[yi d,yi e,.own 20000258])),(100000,(94,[.bor u0 5 (.int .u8) f,yi g,yi h]))] [(20000258,(⟨3,.int .i64,a,true,false⟩:ac))]
def Pb:aa:=⟨[4,5,100000],[4,100000],[],[],[(⟨true,4,2⟩,20000258)]⟩
def Pc:Nat->Option aa:=aA [(1,t8),(3,yU),(0,mT),(5,yW),(1000000,Pb)]
abbrev dg{J:Type}(N n:Nat)(V:St)(l:aa)(K:KT J):Option J:=ak Eb bm Pc N (bf 99 (bu Try.f92) n) .n V (ax (some l) K)
def Pd N u0 b0 r0 a (K:KT J):dg N 2 (OZ u0 b0 r0 a) O0 K =
 spec_dTree.Z1 N b0 r0 a (λa b c d e f=>K .nrm (Ec u0 a b c d e f)):=by kernel_rfl
def Pe N u0 a b c d e f (K:KT J):dg N 5 (Ec u0 a b c d e f) O1 K =
 spec_dTree.Z3 N a b c d e f (λa g b c d e f=>K .nrm (Ed u0 a g b c d e f)):=by kernel_rfl
def Pf N u0 a b c d e f g (K:KT J):dg N 11 (Ed u0 a b c d e f g) Ee K =
 spec_dTree.Z5 N a b c d e f g (λa b h c d e f g=>K .nrm (t7 u0 a b h c d e f g)):=by kernel_rfl
def Pg N u0 a b c d e f g h (K:KT J):dg N 23 (t7 u0 a b c d e f g h) Ee K =
 spec_dTree.Z7 N a b c d e f g h (λa b c d e f g h=>K .nrm (t7 u0 a b c d e f g h)):=by kernel_rfl
def Ph N u0 h a b c d e f g (K:KT J):dg N 47 (t7 u0 h a b c d e f g) O3 K =
 spec_dTree.Z9 N h a b c d e f g (λa b c d e f g=>K .nrm (Ef u0 a b c d e f g)):=by kernel_rfl
def Pi N u0 a b c d e f g (K:KT J):dg N 159 (Ef u0 a b c d e f g) O4 K =
 spec_dTree.Z12 N a b c d e f g (λa b h c d e f g=>K .nrm (Eg u0 a b h c d e f g)):=by kernel_rfl
def Pj N u0 a b c d e f g h (K:KT J):dg N 607 (Eg u0 a b c d e f g h) O5 K =
 spec_dTree.Z15 N a b c d e f g h (λa b c i d e f g h=>K .nrm (yQ u0 a b c i d e f g h)):=by kernel_rfl
def Pk N u0 a b h i c d e f g (K:KT J):dg N 2399 (yQ u0 a b h i c d e f g) t8 K =
 spec_dTree.Z18 N a b h i c d e f g (λj a b c d e f g l m=>K .nrm (mS u0 j a b c d e f g l m)):=by kernel_rfl
def Pl N u0 a b c d e f g h i j (K:KT J):dg N 9567 (mS u0 a b c d e f g h i j) Eh K =
 spec_dTree.Z21 N a b c d e f g h i j (λa b c l d e f g h i j=>K .nrm (t9 u0 a b c l d e f g h i j)):=by kernel_rfl
def Pm N u0 a b c l d e f g h i j (K:KT J):dg N 38239 (t9 u0 a b c l d e f g h i j) Eh K =
 spec_dTree.Z24 N a b c l d e f g h i j (λa b c l d e f g h i j=>K .nrm (t9 u0 a b c l d e f g h i j)) (λa b c d e f g h i j=>K (.exit 1) (mS u0 a b c d e f g h i j)):=by kernel_rfl
def Pn N u0 (K:KT J):=s8 K (spec_dTree.Z23L N (λa b c d e f g h i j=>K (.exit 1) (mS u0 a b c d e f g h i j))) (λa b c l d e f g h i j k=>spec_dTree.Z24 N a b c l d e f g h i j k (λa b c d e f g h i j=>K (.exit 1) (mS u0 a b c d e f g h i j))) (λF a b c l d e f g h i j=>Pm N u0 a b c l d e f g h i j _) (by kernel_rfl)
def Po N u0 a b c d e f g h i j l (K:KT J):=vL (t9 u0 a b c d e f g h i j l) (Pn N u0 (jK t8 K) N a b c d e f g h i j l) (by kernel_rfl)
def Pp N u0 a b c l d e f g h i j (K:KT J):=vB 1 t8 K (spec_dTree.Z22 N a b c l d e f g h i j (λa b c d e f g h i j=>K .nrm (mS u0 a b c d e f g h i j))) (Po N u0 a b c l d e f g h i j _) (by kernel_rfl)
def Pq N u0 a b c d e f g h i j (K:KT J):=vQ (λk=>spec_dTree.Z21 N a b c d e f g h i j k) (Pl N u0 a b c d e f g h i j _) (fT λa b c l d e f g h i j=>Pp N u0 a b c l d e f g h i j K)
def Pr N u0 f g h a b c d e i j (K:KT J):dg N 7519 (mS u0 f g h a b c d e i j) mT K =
 spec_dTree.Z25 N f g h a b c d e i j (λl m d e a b c=>K .ret (lu u0 l m d e a b c)):=by kernel_rfl
def Ps N u0 a b c d e f g h i j (K:KT J):=vQ (λk=>spec_dTree.Z20 N a b c d e f g h i j k) (Pq N u0 a b c d e f g h i j _) (dN λa b c d e f g h i j=>Pr N u0 a b c d e f g h i j K)
def Pt N u0 a b h i c d e f g (K:KT J):=vQ (λk=>spec_dTree.Z18 N a b h i c d e f g k) (Pk N u0 a b h i c d e f g _) (dN λj a b c d e f g l m=>Ps N u0 j a b c d e f g l m K)
def Pu N u0 h a b i c d e f g (K:KT J):dg N 2911 (yQ u0 h a b i c d e f g) O6 K =
 spec_dTree.Z27 N h a b i c d e f g (λa b j c d e f g=>K .nrm (yR u0 a b j c d e f g)):=by kernel_rfl
def Pv N u0 f g h a b c d e (K:KT J):dg N 5983 (yR u0 f g h a b c d e) mT K =
 spec_dTree.Z29 N f g h a b c d e (λi j d e a b c=>K .ret (lu u0 i j d e a b c)):=by kernel_rfl
def Pw N u0 a b h c d e f g (K:KT J):dg N 12127 (yR u0 a b h c d e f g) O7 K =
 spec_dTree.Z31 N a b h c d e f g (λa b i c d e f g=>K .nrm (yS u0 a b i c d e f g)):=by kernel_rfl
def Px N u0 f g h a b c d e (K:KT J):dg N 24415 (yS u0 f g h a b c d e) mT K =
 spec_dTree.Z33 N f g h a b c d e (λi j d e a b c=>K .ret (lu u0 i j d e a b c)):=by kernel_rfl
def Py N u0 a b h c d e f g (K:KT J):dg N 48991 (yS u0 a b h c d e f g) O8 K =
 spec_dTree.Z35 N a b h c d e f g (λa b i c d e f g=>K .nrm (yT u0 a b i c d e f g)):=by kernel_rfl
def Pz N u0 f g h a b c d e (K:KT J):dg N 163679 (yT u0 f g h a b c d e) O9 K =
 spec_dTree.Z38 N f g h a b c d e (λi a b c d e j l=>K .nrm (Ei u0 i a b c d e j l)):=by kernel_rfl
def PA N u0 a b c d e f g h (K:KT J):dg N 622431 (Ei u0 a b c d e f g h) Ej K =
 spec_dTree.Z41 N a b c d e f g h (λa i b c d e f g h=>K .nrm (ua u0 a i b c d e f g h)):=by kernel_rfl
def PB N u0 a i b c d e f g h (K:KT J):dg N 2457439 (ua u0 a i b c d e f g h) Ej K =
 spec_dTree.Z44 N a i b c d e f g h (λa i b c d e f g h=>K .nrm (ua u0 a i b c d e f g h)) (λa e f g h b c d=>K (.exit 3) (qV u0 a e f g h b c d)):=by kernel_rfl
def PC N u0 (K:KT J):=qe K (spec_dTree.Z43L N (λa b c d e f g h=>K (.exit 3) (qV u0 a b c d e f g h))) (λa i f g h b c d e k=>spec_dTree.Z44 N a i f g h b c d e k (λa b c d e f g h=>K (.exit 3) (qV u0 a b c d e f g h))) (λF a i f g h b c d e=>PB N u0 a i f g h b c d e _) (by kernel_rfl)
def PD N u0 a b c d e f g h i (K:KT J):=vL (ua u0 a b c d e f g h i) (PC N u0 (jK yU K) N a b c d e f g h i) (by kernel_rfl)
def PE N u0 a i b c d e f g h (K:KT J):=vB 3 yU K (spec_dTree.Z42 N a i b c d e f g h (λa e f g h b c d=>K .nrm (qV u0 a e f g h b c d))) (PD N u0 a i b c d e f g h _) (by kernel_rfl)
def PF N u0 a b c d e f g h (K:KT J):=vQ (λk=>spec_dTree.Z41 N a b c d e f g h k) (PA N u0 a b c d e f g h _) (dM λa i b c d e f g h=>PE N u0 a i b c d e f g h K)
def PG N u0 f a b g h c d e (K:KT J):dg N 491359 (qV u0 f a b g h c d e) mT K =
 spec_dTree.Z45 N f a b g h c d e (λi j a b c d e=>K .ret (lu u0 i j a b c d e)):=by kernel_rfl
def PH N u0 a b c d e f g h (K:KT J):=vQ (λk=>spec_dTree.Z40 N a b c d e f g h k) (PF N u0 a b c d e f g h _) (ed λa e f g h b c d=>PG N u0 a e f g h b c d K)
def PI N u0 f g h a b c d e (K:KT J):=vQ (λk=>spec_dTree.Z38 N f g h a b c d e k) (Pz N u0 f g h a b c d e _) (ed λi a b c d e j l=>PH N u0 i a b c d e j l K)
def PJ N u0 f g h a b c d e (K:KT J):dg N 130911 (yT u0 f g h a b c d e) mT K =
 spec_dTree.Z46 N f g h a b c d e (λf a b c d e=>K .nrm (yV u0 f a b c d e)) (λi j d e a b c=>K .ret (lu u0 i j d e a b c)):=by kernel_rfl
def PK N u0 b c a d e f g h (K:KT J):=vI (.tmp 126) (a) (PI N u0 b c a d e f g h K) (PJ N u0 b c a d e f g h K) (by kernel_rfl)
def PL N u0 a b h c d e f g (K:KT J):=vQ (λk=>spec_dTree.Z35 N a b h c d e f g k) (Py N u0 a b h c d e f g _) (ed λa b i c d e f g=>PK N u0 a b i c d e f g K)
def PM N u0 b c a d e f g h (K:KT J):=vI (.tmp 119) (a) (Px N u0 b c a d e f g h K) (PL N u0 b c a d e f g h K) (by kernel_rfl)
def PN N u0 a b h c d e f g (K:KT J):=vQ (λk=>spec_dTree.Z31 N a b h c d e f g k) (Pw N u0 a b h c d e f g _) (ed λa b i c d e f g=>PM N u0 a b i c d e f g K)
def PO N u0 b c a d e f g h (K:KT J):=vI (.tmp 110) (a) (Pv N u0 b c a d e f g h K) (PN N u0 b c a d e f g h K) (by kernel_rfl)
def PP N u0 h a b i c d e f g (K:KT J):=vQ (λk=>spec_dTree.Z27 N h a b i c d e f g k) (Pu N u0 h a b i c d e f g _) (ed λa b j c d e f g=>PO N u0 a b j c d e f g K)
def PQ N u0 b c d a e f g h i (K:KT J):=vI (.tmp 65) (a) (Pt N u0 b c d a e f g h i K) (PP N u0 b c d a e f g h i K) (by kernel_rfl)
def PR N u0 a b c d e f g h (K:KT J):=vQ (λk=>spec_dTree.Z15 N a b c d e f g h k) (Pj N u0 a b c d e f g h _) (dM λa b c i d e f g h=>PQ N u0 a b c i d e f g h K)
def PS N u0 g f h a b c d e (K:KT J):=vB 0 mT K (spec_dTree.Z13 N g f h a b c d e (λf a b c d e=>K .nrm (yV u0 f a b c d e)) (λi j d e a b c=>K .ret (lu u0 i j d e a b c))) (PR N u0 g f h a b c d e _) (by kernel_rfl)
def PU N u0 a b c d e f g (K:KT J):=vQ (λk=>spec_dTree.Z12 N a b c d e f g k) (Pi N u0 a b c d e f g _) (ed λa b h c d e f g=>PS N u0 a b h c d e f g K)
def PV N u0 a b c d e f (K:KT J):dg N 191 (yV u0 a b c d e f) Pa K =
 spec_dTree.Z48 N a b c d e f (λg a b c d e f h i=>K .nrm (Ek u0 g a b c d e f h i)):=by kernel_rfl
def PW N u0 a b c d e f g h i (K:KT J):dg N 639 (Ek u0 a b c d e f g h i) El K =
 spec_dTree.Z51 N a b c d e f g h i (λa b j c d e f g h i=>K .nrm (ub u0 a b j c d e f g h i)):=by kernel_rfl
def PX N u0 a b j c d e f g h i (K:KT J):dg N 2431 (ub u0 a b j c d e f g h i) El K =
 spec_dTree.Z54 N a b j c d e f g h i (λa b j c d e f g h i=>K .nrm (ub u0 a b j c d e f g h i)) (λa b f g h i c d e=>K (.exit 5) (qW u0 a b f g h i c d e)):=by kernel_rfl
def PY N u0 (K:KT J):=kU K (spec_dTree.Z53L N (λa b c d e f g h i=>K (.exit 5) (qW u0 a b c d e f g h i))) (λa b j g h i c d e f k=>spec_dTree.Z54 N a b j g h i c d e f k (λa b c d e f g h i=>K (.exit 5) (qW u0 a b c d e f g h i))) (λF a b j g h i c d e f=>PX N u0 a b j g h i c d e f _) (by kernel_rfl)
def PZ N u0 a b c d e f g h i j (K:KT J):=vL (ub u0 a b c d e f g h i j) (PY N u0 (jK yW K) N a b c d e f g h i j) (by kernel_rfl)
def P0 N u0 a b j c d e f g h i (K:KT J):=vB 5 yW K (spec_dTree.Z52 N a b j c d e f g h i (λa b f g h i c d e=>K .nrm (qW u0 a b f g h i c d e))) (PZ N u0 a b j c d e f g h i _) (by kernel_rfl)
def P1 N u0 a b c d e f g h i (K:KT J):=vQ (λk=>spec_dTree.Z51 N a b c d e f g h i k) (PW N u0 a b c d e f g h i _) (dN λa b j c d e f g h i=>P0 N u0 a b j c d e f g h i K)
def P2 N u0 f g a b h i c d e (K:KT J):dg N 511 (qW u0 f g a b h i c d e) OY K =
 spec_dTree.Z55 N f g a b h i c d e (λj l a b c d e=>K .ret (lu u0 j l a b c d e)):=by kernel_rfl
def P3 N u0 a b c d e f g h i (K:KT J):=vQ (λk=>spec_dTree.Z50 N a b c d e f g h i k) (P1 N u0 a b c d e f g h i _) (dM λa b f g h i c d e=>P2 N u0 a b f g h i c d e K)
def P4 N u0 a b c d e f (K:KT J):=vQ (λk=>spec_dTree.Z48 N a b c d e f k) (PV N u0 a b c d e f _) (dM λg a b c d e f h i=>P3 N u0 g a b c d e f h i K)
def P5 N u0 g f a b c d e (K:KT J):=vQ (λk=>spec_dTree.Z11 N g f a b c d e k (λh i d e a b c=>K .ret (lu u0 h i d e a b c))) (PU N u0 g f a b c d e _) (da λf a b c d e=>P4 N u0 f a b c d e K)
def P6 N u0 h a b c d e f g (K:KT J):=vQ (λk=>spec_dTree.Z9 N h a b c d e f g k) (Ph N u0 h a b c d e f g _) (gV λa b c d e f g=>P5 N u0 a b c d e f g K)
def P7 N u0 a b c d e f g h (K:KT J):=vQ (λk=>spec_dTree.Z7 N a b c d e f g h k) (Pg N u0 a b c d e f g h _) (ed λa b c d e f g h=>P6 N u0 a b c d e f g h K)
def P8 N u0 a b c d e f g (K:KT J):=vQ (λk=>spec_dTree.Z5 N a b c d e f g k) (Pf N u0 a b c d e f g _) (ed λa b h c d e f g=>P7 N u0 a b h c d e f g K)
def P9 N u0 a b c d e f (K:KT J):=vQ (λk=>spec_dTree.Z3 N a b c d e f k) (Pe N u0 a b c d e f _) (gV λa g b c d e f=>P8 N u0 a g b c d e f K)
def Qa N u0 b0 r0 a (K:KT J):=vQ (λk=>spec_dTree.Z1 N b0 r0 a k) (Pd N u0 b0 r0 a _) (da λa b c d e f=>P9 N u0 a b c d e f K)
def Qb(h:spec_dTree.Spec):dv Try.prog 92 yP :=
 jZ Try.func92 bv OX (λN u X K=>Qa N u X.1.1.1 X.1.2 X.2.1 K) (by kernel_rfl) λu0 X hb1 hb2 hp=>by obtain⟨⟨⟨b0,_⟩,r0⟩,a,_⟩:=X;obtain⟨N,h⟩:=h [u0] b0 r0 a hb1.1 hp;exact⟨N,Eq.trans (by kernel_rfl) (h N (Nat.le_refl N))⟩
def Qc:dv Try.prog 92 yP:=Qb spec_dTree.ok
def Em:bC:=⟨[⟨.int .i64,false,false⟩,⟨.int .i64,false,false⟩,⟨.int .i64,false,false⟩],[⟨.bool,false,false⟩]⟩
def uc:a8:=⟨Em,none,λX=>((),((f7.g X.1 X.2.1 X.2.2.1),()))⟩
def En:Gm:=bk
def Qd:au Try.prog En:=au.nil
def Qe:aa:=⟨[],[],[],[],[]⟩
def Qf(a b c:Int):St:=bH Em.ps (a,(b,(c,())))
def Qg(a:Bool):St:=ah [(6,xB a)] [] []
def Qh:aa:=⟨[6],[],[],[],[]⟩
def Qi:Nat->Option aa:=aA [(1000000,Qh)]
abbrev Qj{J:Type}(N n:Nat)(V:St)(l:aa)(K:KT J):Option J:=ak En bm Qi N (bf 99 (bu Try.f76) n) .n V (ax (some l) K)
def Qk N a b c (K:KT J):Qj N 1 (Qf a b c) Qe K =
 f7.Z0 N a b c (λd=>K .ret (Qg d)):=by kernel_rfl
def Ql(h:f7.Spec):aG Try.prog 76 uc :=
 bQ Try.func76 bv Qd (λN X K=>Qk N X.1 X.2.1 X.2.2.1 K) (by kernel_rfl) λX hb hp=>by obtain⟨a,b,c,_⟩:=X;obtain⟨N,h⟩:=h a b c;exact⟨N,Eq.trans (by kernel_rfl) (h N (Nat.le_refl N))⟩
def Eo:aG Try.prog 76 uc:=Ql f7.ok
def Ep:bC:=⟨[⟨.pair (.int .i64) (.pair (.int .i64) (.sl 3 (.int .i64))),true,false⟩,⟨.int .i64,false,false⟩,⟨.int .i64,false,false⟩],[⟨.int .i64,false,false⟩]⟩
def mU:a8:=⟨Ep,(some λX=>bw.P X.1 X.2.1 X.2.2.1),λX=>((),((bw.g X.1 X.2.1 X.2.2.1),()))⟩
def Er:Gm:=bk
def Qm:au Try.prog Er:=au.nil
def Qn:aa:=⟨[],[],[],[],[]⟩
def Qo(a:MT)(b c:Int):St:=bH Ep.ps (a,(b,(c,())))
def Qp(a:Int):St:=ah [(6,xi a)] [] []
def Qq:aa:=⟨[6],[],[],[],[]⟩
def Qr:Nat->Option aa:=aA [(1000000,Qq)]
abbrev Qs{J:Type}(N n:Nat)(V:St)(l:aa)(K:KT J):Option J:=ak Er bm Qr N (bf 99 (bu Try.f75) n) .n V (ax (some l) K)
def Qt N a b c (K:KT J):Qs N 1 (Qo a b c) Qn K =
 bw.Z0 N a b c (λd=>K .ret (Qp d)):=by kernel_rfl
def Qu(h:bw.Spec):aG Try.prog 75 mU :=
 bQ Try.func75 bv Qm (λN X K=>Qt N X.1 X.2.1 X.2.2.1 K) (by kernel_rfl) λX hb hp=>by obtain⟨a,b,c,_⟩:=X;obtain⟨N,h⟩:=h a b c hb.1 hp;exact⟨N,Eq.trans (by kernel_rfl) (h N (Nat.le_refl N))⟩
def qX:aG Try.prog 75 mU:=Qu bw.ok
def Es:bC:=⟨[⟨.pair (.int .i64) (.pair (.int .i64) (.sl 3 (.int .i64))),true,false⟩],[⟨.bool,false,false⟩]⟩
def ud:a8:=⟨Es,none,λX=>((),((ca.g X.1),()))⟩
def Et:Gm:=aY (aY bk 75 mU) 76 uc
def Qv:au Try.prog Et:=((au.nil).add qX (by kernel_rfl)).add Eo (by kernel_rfl)
def Qw:aa:=⟨[],[],[],[],[]⟩
def Qx(a:MT):St:=bH Es.ps (a,())
def kc(a b:Int)(c:LI):St:=ah [(1,xb 1)] [(1,(26,[yi a,yi b,.sn 3 tI c none]))] []
def qY:aa:=⟨[1],[1],[],[],[]⟩
def ue(a b c:Int)(d:LI):St:=ah [(1,xb 1),(3,xi a)] [(1,(26,[yi b,yi c,.sn 3 tI d none]))] []
def Eu:aa:=⟨[1,3],[1],[],[],[]⟩
def ii(a b c:Int)(d:LI):St:=ah [(1,xb 1),(4,xi a)] [(1,(26,[yi b,yi c,.sn 3 tI d none]))] []
def lv:aa:=⟨[1,4],[1],[],[],[]⟩
def uf(a b c d:Int)(e:LI):St:=ah [(1,xb 1),(4,xi a),(5,xi b)] [(1,(26,[yi c,yi d,.sn 3 tI e none]))] []
def Ev:aa:=⟨[1,4,5],[1],[],[],[]⟩
def oy :St:=ah [] [] []
def yX:aa:=⟨[],[],[],[],[]⟩
def eQ(a:Bool):St:=ah [(2,xB a)] [] []
def Qy:aa:=⟨[2],[],[],[],[]⟩
def Qz:Nat->Option aa:=aA [(0,qY),(4,lv),(3,lv),(2,yX),(1000000,Qy)]
abbrev jF{J:Type}(N n:Nat)(V:St)(l:aa)(K:KT J):Option J:=ak Et bm Qz N (bf 99 (bu Try.f78) n) .n V (ax (some l) K)
def QA N a (K:KT J):jF N 2 (Qx a) qY K =
 ca.Z1 N a (λb c d=>K .nrm (kc b c d)):=by kernel_rfl
def QB N a b c (K:KT J):jF N 5 (kc a b c) qY K =
 ca.Z3 N a b c (λa b c=>K .nrm (kc a b c)) (λd=>K .ret (eQ d)):=by kernel_rfl
def QC N a b c (K:KT J):jF N 19 (kc a b c) Eu K =
 ca.Z6 N a b c (λd a b c=>K .nrm (ue d a b c)):=by kernel_rfl
def QD N d a b c (K:KT J):jF N 75 (ue d a b c) Eu K =
 ca.Z9 N d a b c (λd a b c=>K .nrm (ue d a b c)) (λa b c=>K (.exit 0) (kc a b c)) (λe=>K .ret (eQ e)):=by kernel_rfl
def QE N (K:KT J):=s7 K (ca.Z8L N (λa b c=>K (.exit 0) (kc a b c)) (λd=>K .ret (eQ d))) (λe a b c k=>ca.Z9 N e a b c k (λa b c=>K (.exit 0) (kc a b c)) (λd=>K .ret (eQ d))) (λF e a b c=>QD N e a b c _) (by kernel_rfl)
def QF N a b c d (K:KT J):=vL (ue a b c d) (QE N (jK qY K) N a b c d) (by kernel_rfl)
def QG N d a b c (K:KT J):=vB 0 qY K (ca.Z7 N d a b c (λa b c=>K .nrm (kc a b c)) (λe=>K .ret (eQ e))) (QF N d a b c _) (by kernel_rfl)
def QH N a b c (K:KT J):=vQ (λk=>ca.Z6 N a b c k) (QC N a b c _) (d9 λd a b c=>QG N d a b c K)
def QI N a b c (K:KT J):jF N 39 (kc a b c) lv K =
 ca.Z12 N a b c (λd a b c=>K .nrm (ii d a b c)):=by kernel_rfl
def QJ N a b c d (K:KT J):jF N 279 (ii a b c d) lv K =
 ca.Z16 N a b c d (λa b c d=>K .nrm (ii a b c d)) (K (.exit 2) oy):=by kernel_rfl
def QK N a b c d (K:KT J):jF N 2199 (ii a b c d) Ev K =
 ca.Z20 N a b c d (λa e b c d=>K .nrm (uf a e b c d)):=by kernel_rfl
def QL N a e b c d (K:KT J):jF N 9367 (uf a e b c d) Ev K =
 ca.Z23 N a e b c d (λa e b c d=>K .nrm (uf a e b c d)) (λa b c d=>K (.exit 4) (ii a b c d)) (λf=>K .ret (eQ f)):=by kernel_rfl
def QM N (K:KT J):=qc K (ca.Z22L N (λa b c d=>K (.exit 4) (ii a b c d)) (λe=>K .ret (eQ e))) (λa f b c d k=>ca.Z23 N a f b c d k (λa b c d=>K (.exit 4) (ii a b c d)) (λe=>K .ret (eQ e))) (λF a f b c d=>QL N a f b c d _) (by kernel_rfl)
def QN N a b c d e (K:KT J):=vL (uf a b c d e) (QM N (jK lv K) N a b c d e) (by kernel_rfl)
def QO N a e b c d (K:KT J):=vB 4 lv K (ca.Z21 N a e b c d (λa b c d=>K .nrm (ii a b c d)) (λf=>K .ret (eQ f))) (QN N a e b c d _) (by kernel_rfl)
def QP N a b c d (K:KT J):=vQ (λk=>ca.Z20 N a b c d k) (QK N a b c d _) (cN λa e b c d=>QO N a e b c d K)
def QQ N a b c d (K:KT J):=vB 3 lv K (ca.Z18 N a b c d (λa b c d=>K .nrm (ii a b c d)) (λe=>K .ret (eQ e))) (QP N a b c d _) (by kernel_rfl)
def QR N a b c d (K:KT J):jF N 919 (ii a b c d) lv K =
 ca.Z24 N a b c d (λa b c d=>K .nrm (ii a b c d)):=by kernel_rfl
def QS N a b c d (K:KT J):=vQ (λk=>ca.Z18 N a b c d k (λe=>K .ret (eQ e))) (QQ N a b c d _) (d9 λa b c d=>QR N a b c d K)
def QT N a b c d (K:KT J):=vQ (λk=>ca.Z16 N a b c d k (K (.exit 2) oy)) (QJ N a b c d _) (d9 λa b c d=>QS N a b c d K)
def QU N (K:KT J):=s7 K (ca.Z14L N (K (.exit 2) oy) (λa=>K .ret (eQ a))) (λb c d e k=>ca.Z15 N b c d e k (K (.exit 2) oy) (λa=>K .ret (eQ a))) (λF b c d e=>QT N b c d e _) (by kernel_rfl)
def QV N a b c d (K:KT J):=vL (ii a b c d) (QU N (jK yX K) N a b c d) (by kernel_rfl)
def QW N a b c d (K:KT J):=vB 2 yX K (ca.Z13 N a b c d (K .nrm oy) (λe=>K .ret (eQ e))) (QV N a b c d _) (by kernel_rfl)
def QX N a b c (K:KT J):=vQ (λk=>ca.Z12 N a b c k) (QI N a b c _) (d9 λd a b c=>QW N d a b c K)
def QY N  (K:KT J):jF N 31 oy Qw K =
 ca.Z25 N (λa=>K .ret (eQ a)):=by kernel_rfl
def QZ N a b c (K:KT J):=vQ (λk=>ca.Z11 N a b c k (λd=>K .ret (eQ d))) (QX N a b c _) (QY N K)
def Q0 N a b c (K:KT J):=vQ (λk=>ca.Z5 N a b c k (λd=>K .ret (eQ d))) (QH N a b c _) (fG λa b c=>QZ N a b c K)
def Q1 N a b c (K:KT J):=vQ (λk=>ca.Z3 N a b c k (λd=>K .ret (eQ d))) (QB N a b c _) (fG λa b c=>Q0 N a b c K)
def Q2 N a (K:KT J):=vQ (λk=>ca.Z1 N a k) (QA N a _) (fG λb c d=>Q1 N b c d K)
def Q3(h:ca.Spec):aG Try.prog 78 ud :=
 bQ Try.func78 bv Qv (λN X K=>Q2 N X.1 K) (by kernel_rfl) λX hb hp=>by obtain⟨a,_⟩:=X;obtain⟨N,h⟩:=h a hb.1;exact⟨N,Eq.trans (by kernel_rfl) (h N (Nat.le_refl N))⟩
def Ew:aG Try.prog 78 ud:=Q3 ca.ok
def Ey:bC:=⟨[⟨.sl 3 (.int .i64),false,false⟩,⟨.int .i64,false,false⟩],[⟨.bool,false,false⟩]⟩
def yY:a8:=⟨Ey,none,λX=>((),((dV.g X.1 X.2.1),()))⟩
def Ez:Gm:=bk
def Q4:au Try.prog Ez:=au.nil
def Q5:aa:=⟨[],[],[],[],[]⟩
def Q6(a:LI)(b:Int):St:=bH Ey.ps (a,(b,()))
def EA(a:LI)(b:Int):St:=ah [(0,.c (.sn 3 tI a none)),(1,xi b)] [] []
def Q7:aa:=⟨[0,1],[],[],[],[]⟩
def ug(a:LI)(b d:Int):St:=ah [(0,.c (.sn 3 tI a none)),(1,xi b),(5,xi d)] [] []
def EB:aa:=⟨[0,1,5],[],[],[],[]⟩
def qZ :St:=ah [] [] []
def yZ:aa:=⟨[],[],[],[],[]⟩
def oz(a:Bool):St:=ah [(4,xB a)] [] []
def Q8:aa:=⟨[4],[],[],[],[]⟩
def Q9:Nat->Option aa:=aA [(0,yZ),(1000000,Q8)]
abbrev uh{J:Type}(N n:Nat)(V:St)(l:aa)(K:KT J):Option J:=ak Ez bm Q9 N (bf 99 (bu Try.f100) n) .n V (ax (some l) K)
def Ra N a b (K:KT J):uh N 2 (Q6 a b) Q7 K =
 dV.Z1 N a b (λa b=>K .nrm (EA a b)):=by kernel_rfl
def Rb N a b (K:KT J):uh N 9 (EA a b) EB K =
 dV.Z4 N a b (λa b c=>K .nrm (ug a b c)):=by kernel_rfl
def Rc N a b c (K:KT J):uh N 37 (ug a b c) EB K =
 dV.Z7 N a b c (λa b c=>K .nrm (ug a b c)) (K (.exit 0) qZ) (λd=>K .ret (oz d)):=by kernel_rfl
def Re N (K:KT J):=mA K (dV.Z6L N (K (.exit 0) qZ) (λa=>K .ret (oz a))) (λb c d k=>dV.Z7 N b c d k (K (.exit 0) qZ) (λa=>K .ret (oz a))) (λF b c d=>Rc N b c d _) (by kernel_rfl)
def Rg N a b c (K:KT J):=vL (ug a b c) (Re N (jK yZ K) N a b c) (by kernel_rfl)
def Rh N a b c (K:KT J):=vB 0 yZ K (dV.Z5 N a b c (K .nrm qZ) (λd=>K .ret (oz d))) (Rg N a b c _) (by kernel_rfl)
def Ri N a b (K:KT J):=vQ (λk=>dV.Z4 N a b k) (Rb N a b _) (fG λa b c=>Rh N a b c K)
def Rj N  (K:KT J):uh N 7 qZ Q5 K =
 dV.Z8 N (λa=>K .ret (oz a)):=by kernel_rfl
def Rk N a b (K:KT J):=vQ (λk=>dV.Z3 N a b k (λc=>K .ret (oz c))) (Ri N a b _) (Rj N K)
def Rl N a b (K:KT J):=vQ (λk=>dV.Z1 N a b k) (Ra N a b _) (gz λa b=>Rk N a b K)
def Rm(h:dV.Spec):aG Try.prog 100 yY :=
 bQ Try.func100 bv Q4 (λN X K=>Rl N X.1 X.2.1 K) (by kernel_rfl) λX hb hp=>by obtain⟨a,b,_⟩:=X;obtain⟨N,h⟩:=h a b hb.1;exact⟨N,Eq.trans (by kernel_rfl) (h N (Nat.le_refl N))⟩
def Rn:aG Try.prog 100 yY:=Rm dV.ok
def EC:bC:=⟨[⟨.pair (.int .i64) (.pair (.int .i64) (.sl 3 (.int .i64))),true,false⟩,⟨.int .i64,false,false⟩],[⟨.sl 3 (.int .i64),false,false⟩,⟨.sl 3 (.int .i64),false,false⟩]⟩
def za:a8:=⟨EC,(some λX=>cg.P X.1 X.2.1),λX=>((),((cg.g X.1 X.2.1).1,((cg.g X.1 X.2.1).2,())))⟩
def ED:Gm:=aY (aY bk 75 mU) 100 yY
def Ro:au Try.prog ED:=((au.nil).add qX (by kernel_rfl)).add Rn (by kernel_rfl)
def Rp:aa:=⟨[],[],[],[],[]⟩
def Rq(a:MT)(b:Int):St:=bH EC.ps (a,(b,()))
def EE(a b c:Int)(d:LI):St:=ah [(1,xi a),(2,xb 2)] [(2,(26,[yi b,yi c,.sn 3 tI d none]))] []
def Rr:aa:=⟨[1,2],[2],[],[],[]⟩
def EF(a:LI)(b c d:Int)(e:LI):St:=ah [(1,xi b),(2,xb 2),(6,xo 1000384)] [(2,(26,[yi c,yi d,.sn 3 tI e none]))] [(1000384,(⟨3,.int .i64,a,true,false⟩:ac))]
def Rs:aa:=⟨[1,2,6],[2],[],[],[(⟨false,6,0⟩,1000384)]⟩
def EG(a b:LI)(c d:Int)(e:LI):St:=ah [(2,xb 2),(6,xo 1000384),(7,xo 1000448)] [(2,(26,[yi c,yi d,.sn 3 tI e none]))] [(1000384,(⟨3,.int .i64,a,true,false⟩:ac)),(1000448,(⟨3,.int .i64,b,true,false⟩:ac))]
def Rt:aa:=⟨[2,6,7],[2],[],[],[(⟨false,6,0⟩,1000384),(⟨false,7,0⟩,1000448)]⟩
def ij(a b:LI)(c d e:Int)(f:LI):St:=ah [(2,xb 2),(6,xo 1000384),(7,xo 1000448),(8,xi c)] [(2,(26,[yi d,yi e,.sn 3 tI f none]))] [(1000384,(⟨3,.int .i64,a,true,false⟩:ac)),(1000448,(⟨3,.int .i64,b,true,false⟩:ac))]
def lw:aa:=⟨[2,6,7,8],[2],[],[],[(⟨false,6,0⟩,1000384),(⟨false,7,0⟩,1000448)]⟩
def ui(a b:LI)(c d e f:Int)(g:LI):St:=ah [(2,xb 2),(6,xo 1000384),(7,xo 1000448),(8,xi c),(9,xi d)] [(2,(26,[yi e,yi f,.sn 3 tI g none]))] [(1000384,(⟨3,.int .i64,a,true,false⟩:ac)),(1000448,(⟨3,.int .i64,b,true,false⟩:ac))]
def EH:aa:=⟨[2,6,7,8,9],[2],[],[],[(⟨false,6,0⟩,1000384),(⟨false,7,0⟩,1000448)]⟩
def oA(a b:LI):St:=ah [(6,xo 1000384),(7,xo 1000448)] [] [(1000384,(⟨3,.int .i64,a,true,false⟩:ac)),(1000448,(⟨3,.int .i64,b,true,false⟩:ac))]
def zb:aa:=⟨[6,7],[],[],[],[(⟨false,6,0⟩,1000384),(⟨false,7,0⟩,1000448)]⟩
def Ru(a b:LI):St:=ah [(4,xo 1000256),(5,xo 1000320)] [] [(1000256,(⟨3,.int .i64,a,true,false⟩:ac)),(1000320,(⟨3,.int .i64,b,true,false⟩:ac))]
def Rv:aa:=⟨[4,5],[],[],[],[(⟨false,4,0⟩,1000256),(⟨false,5,0⟩,1000320)]⟩
def Rw:Nat->Option aa:=aA [(2,lw),(1,lw),(0,zb),(1000000,Rv)]
abbrev ke{J:Type}(N n:Nat)(V:St)(l:aa)(K:KT J):Option J:=ak ED bm Rw N (bf 99 (bu Try.f114) n) .n V (ax (some l) K)
def Rx N b a (K:KT J):ke N 2 (Rq b a) Rr K =
 cg.Z1 N b a (λa c d e=>K .nrm (EE a c d e)):=by kernel_rfl
def Ry N a b c d (K:KT J):ke N 5 (EE a b c d) Rs K =
 cg.Z3 N a b c d (λe a b c d=>K .nrm (EF e a b c d)):=by kernel_rfl
def Rz N a e b c d (K:KT J):ke N 11 (EF a e b c d) Rt K =
 cg.Z5 N a e b c d (λa f b c d=>K .nrm (EG a f b c d)):=by kernel_rfl
def RA N a b c d e (K:KT J):ke N 39 (EG a b c d e) lw K =
 cg.Z8 N a b c d e (λa b f c d e=>K .nrm (ij a b f c d e)):=by kernel_rfl
def RB N a b c d e f (K:KT J):ke N 279 (ij a b c d e f) lw K =
 cg.Z12 N a b c d e f (λa b c d e f=>K .nrm (ij a b c d e f)) (λa b=>K (.exit 0) (oA a b)):=by kernel_rfl
def RC N a b c d e f (K:KT J):ke N 2199 (ij a b c d e f) EH K =
 cg.Z16 N a b c d e f (λa b c g d e f=>K .nrm (ui a b c g d e f)):=by kernel_rfl
def RD N a b c g d e f (K:KT J):ke N 9367 (ui a b c g d e f) EH K =
 cg.Z19 N a b c g d e f (λa b c g d e f=>K .nrm (ui a b c g d e f)) (λa b c d e f=>K (.exit 2) (ij a b c d e f)):=by kernel_rfl
def RE N (K:KT J):=nT K (cg.Z18L N (λa b c d e f=>K (.exit 2) (ij a b c d e f))) (λa b c g d e f k=>cg.Z19 N a b c g d e f k (λa b c d e f=>K (.exit 2) (ij a b c d e f))) (λF a b c g d e f=>RD N a b c g d e f _) (by kernel_rfl)
def RF N a b c d e f g (K:KT J):=vL (ui a b c d e f g) (RE N (jK lw K) N a b c d e f g) (by kernel_rfl)
def RG N a b c g d e f (K:KT J):=vB 2 lw K (cg.Z17 N a b c g d e f (λa b c d e f=>K .nrm (ij a b c d e f))) (RF N a b c g d e f _) (by kernel_rfl)
def RH N a b c d e f (K:KT J):=vQ (λk=>cg.Z16 N a b c d e f k) (RC N a b c d e f _) (gV λa b c g d e f=>RG N a b c g d e f K)
def RI N a b c d e f (K:KT J):=vB 1 lw K (cg.Z14 N a b c d e f (λa b c d e f=>K .nrm (ij a b c d e f))) (RH N a b c d e f _) (by kernel_rfl)
def RJ N a b c d e f (K:KT J):ke N 919 (ij a b c d e f) lw K =
 cg.Z20 N a b c d e f (λa b c d e f=>K .nrm (ij a b c d e f)):=by kernel_rfl
def RK N a b c d e f (K:KT J):=vQ (λk=>cg.Z14 N a b c d e f k) (RI N a b c d e f _) (da λa b c d e f=>RJ N a b c d e f K)
def RL N a b c d e f (K:KT J):=vQ (λk=>cg.Z12 N a b c d e f k (λa b=>K (.exit 0) (oA a b))) (RB N a b c d e f _) (da λa b c d e f=>RK N a b c d e f K)
def RM N (K:KT J):=qd K (cg.Z10L N (λa b=>K (.exit 0) (oA a b))) (λa b c d e f k=>cg.Z11 N a b c d e f k (λa b=>K (.exit 0) (oA a b))) (λF a b c d e f=>RL N a b c d e f _) (by kernel_rfl)
def RN N a b c d e f (K:KT J):=vL (ij a b c d e f) (RM N (jK zb K) N a b c d e f) (by kernel_rfl)
def RO N a b c d e f (K:KT J):=vB 0 zb K (cg.Z9 N a b c d e f (λa b=>K .nrm (oA a b))) (RN N a b c d e f _) (by kernel_rfl)
def RP N a b c d e (K:KT J):=vQ (λk=>cg.Z8 N a b c d e k) (RA N a b c d e _) (da λa b f c d e=>RO N a b f c d e K)
def RQ N a b (K:KT J):ke N 31 (oA a b) Rp K =
 cg.Z21 N a b (λc d=>K .ret (Ru c d)):=by kernel_rfl
def RR N a b c d e (K:KT J):=vQ (λk=>cg.Z7 N a b c d e k) (RP N a b c d e _) (gz λa b=>RQ N a b K)
def RS N a e b c d (K:KT J):=vQ (λk=>cg.Z5 N a e b c d k) (Rz N a e b c d _) (cN λa f b c d=>RR N a f b c d K)
def RT N a b c d (K:KT J):=vQ (λk=>cg.Z3 N a b c d k) (Ry N a b c d _) (cN λe a b c d=>RS N e a b c d K)
def RU N b a (K:KT J):=vQ (λk=>cg.Z1 N b a k) (Rx N b a _) (d9 λa c d e=>RT N a c d e K)
def RV(h:cg.Spec):aG Try.prog 114 za :=
 bQ Try.func114 bv Ro (λN X K=>RU N X.1 X.2.1 K) (by kernel_rfl) λX hb hp=>by obtain⟨a,b,_⟩:=X;obtain⟨N,h⟩:=h a b hb.1 hp;exact⟨N,Eq.trans (by kernel_rfl) (h N (Nat.le_refl N))⟩
def RW:aG Try.prog 114 za:=RV cg.ok
def EI:bC:=⟨[⟨.int .i64,false,false⟩],[⟨.int .i64,false,false⟩]⟩
def zd:a8:=⟨EI,none,λX=>((),((fL.g X.1),()))⟩
def EJ:Gm:=bk
def RX:au Try.prog EJ:=au.nil
def RY:aa:=⟨[],[],[],[],[]⟩
def RZ(a:Int):St:=bH EI.ps (a,())
def R0(a:Int):St:=ah [(2,xi a)] [] []
def R2:aa:=⟨[2],[],[],[],[]⟩
def R3:Nat->Option aa:=aA [(1000000,R2)]
abbrev R4{J:Type}(N n:Nat)(V:St)(l:aa)(K:KT J):Option J:=ak EJ bm R3 N (bf 99 (bu Try.f74) n) .n V (ax (some l) K)
def R5 N a (K:KT J):R4 N 1 (RZ a) RY K =
 fL.Z0 N a (λb=>K .ret (R0 b)):=by kernel_rfl
def R6(h:fL.Spec):aG Try.prog 74 zd :=
 bQ Try.func74 bv RX (λN X K=>R5 N X.1 K) (by kernel_rfl) λX hb hp=>by obtain⟨a,_⟩:=X;obtain⟨N,h⟩:=h a;exact⟨N,Eq.trans (by kernel_rfl) (h N (Nat.le_refl N))⟩
def R7:aG Try.prog 74 zd:=R6 fL.ok
def EK:bC:=⟨[⟨.int .i64,false,false⟩,⟨.int .i64,false,false⟩],[⟨.int .i64,false,false⟩]⟩
def ze:a8:=⟨EK,(some λX=>eA.P X.1 X.2.1),λX=>((),((eA.g X.1 X.2.1),()))⟩
def EL:Gm:=bk
def R8:au Try.prog EL:=au.nil
def R9:aa:=⟨[],[],[],[],[]⟩
def Sa(a b:Int):St:=bH EK.ps (a,(b,()))
def uj(a b:Int):St:=ah [(0,xi a),(1,xi b)] [] []
def EM:aa:=⟨[0,1],[],[],[],[]⟩
def q6(a:Int):St:=ah [(0,xi a)] [] []
def zf:aa:=⟨[0],[],[],[],[]⟩
def Sb(a:Int):St:=ah [(4,xi a)] [] []
def Sc:aa:=⟨[4],[],[],[],[]⟩
def Sd:Nat->Option aa:=aA [(0,zf),(1000000,Sc)]
abbrev zg{J:Type}(N n:Nat)(V:St)(l:aa)(K:KT J):Option J:=ak EL bm Sd N (bf 99 (bu Try.f115) n) .n V (ax (some l) K)
def Se N a b (K:KT J):zg N 2 (Sa a b) EM K =
 eA.Z1 N a b (λa b=>K .nrm (uj a b)):=by kernel_rfl
def Sf N a b (K:KT J):zg N 17 (uj a b) EM K =
 eA.Z5 N a b (λa b=>K .nrm (uj a b)) (λa=>K (.exit 0) (q6 a)):=by kernel_rfl
def Sg N (K:KT J):=xu K (eA.Z4L N (λa=>K (.exit 0) (q6 a))) (λa b k=>eA.Z5 N a b k (λa=>K (.exit 0) (q6 a))) (λF a b=>Sf N a b _) (by kernel_rfl)
def Sh N a b (K:KT J):=vL (uj a b) (Sg N (jK zf K) N a b) (by kernel_rfl)
def Si N a b (K:KT J):=vB 0 zf K (eA.Z3 N a b (λa=>K .nrm (q6 a))) (Sh N a b _) (by kernel_rfl)
def Sj N a (K:KT J):zg N 7 (q6 a) R9 K =
 eA.Z6 N a (λb=>K .ret (Sb b)):=by kernel_rfl
def Sk N a b (K:KT J):=vQ (λk=>eA.Z3 N a b k) (Si N a b _) (funext λa=>Sj N a K)
def Sl N a b (K:KT J):=vQ (λk=>eA.Z1 N a b k) (Se N a b _) (gz λa b=>Sk N a b K)
def Sm(h:eA.Spec):aG Try.prog 115 ze :=
 bQ Try.func115 bv R8 (λN X K=>Sl N X.1 X.2.1 K) (by kernel_rfl) λX hb hp=>by obtain⟨a,b,_⟩:=X;obtain⟨N,h⟩:=h a b hp;exact⟨N,Eq.trans (by kernel_rfl) (h N (Nat.le_refl N))⟩
def Sn:aG Try.prog 115 ze:=Sm eA.ok
def EN:bC:=⟨[⟨.pair (.int .i64) (.pair (.int .i64) (.sl 3 (.int .i64))),true,false⟩],[⟨.sl 3 (.int .i64),false,false⟩,⟨.bool,false,false⟩]⟩
def zh:a8:=⟨EN,(some λX=>aQ.P X.1),λX=>((),((aQ.g X.1).1,((aQ.g X.1).2,())))⟩
def EO:Gm:=aY (aY (aY (aY bk 74 zd) 75 mU) 114 za) 115 ze
def So:au Try.prog EO:=((((au.nil).add R7 (by kernel_rfl)).add qX (by kernel_rfl)).add RW (by kernel_rfl)).add Sn (by kernel_rfl)
def Sp:aa:=⟨[],[],[],[],[]⟩
def Sq(a:MT):St:=bH EN.ps (a,())
def EP(a b:Int)(c:LI):St:=ah [(1,xb 1)] [(1,(26,[yi a,yi b,.sn 3 tI c none]))] []
def Sr:aa:=⟨[1],[1],[],[],[]⟩
def lz(a:LI)(b c:Int)(d:LI):St:=ah [(1,xb 1),(4,xo 1000256)] [(1,(26,[yi b,yi c,.sn 3 tI d none]))] [(1000256,(⟨3,.int .i64,a,true,false⟩:ac))]
def uk:aa:=⟨[1,4],[1],[],[],[(⟨false,4,0⟩,1000256)]⟩
def fv(a:LI)(b c d:Int)(e:LI):St:=ah [(1,xb 1),(4,xo 1000256),(5,xi b)] [(1,(26,[yi c,yi d,.sn 3 tI e none]))] [(1000256,(⟨3,.int .i64,a,true,false⟩:ac))]
def kf:aa:=⟨[1,4,5],[1],[],[],[(⟨false,4,0⟩,1000256)]⟩
def ki(a b c:LI)(d e f:Int)(g:LI):St:=ah [(1,xb 1),(4,xo 1000256),(5,xi d),(6,xo 1000384),(7,xo 1000448)] [(1,(26,[yi e,yi f,.sn 3 tI g none]))] [(1000256,(⟨3,.int .i64,a,true,false⟩:ac)),(1000384,(⟨3,.int .i64,b,true,false⟩:ac)),(1000448,(⟨3,.int .i64,c,true,false⟩:ac))]
def q7:aa:=⟨[1,4,5,6,7],[1],[],[],[(⟨false,4,0⟩,1000256),(⟨false,6,0⟩,1000384),(⟨false,7,0⟩,1000448)]⟩
def ul(a b c:LI)(d e f g:Int)(h:LI):St:=ah [(1,xb 1),(4,xo 1000256),(5,xi d),(6,xo 1000384),(7,xo 1000448),(8,xi e)] [(1,(26,[yi f,yi g,.sn 3 tI h none]))] [(1000256,(⟨3,.int .i64,a,true,false⟩:ac)),(1000384,(⟨3,.int .i64,b,true,false⟩:ac)),(1000448,(⟨3,.int .i64,c,true,false⟩:ac))]
def EQ:aa:=⟨[1,4,5,6,7,8],[1],[],[],[(⟨false,4,0⟩,1000256),(⟨false,6,0⟩,1000384),(⟨false,7,0⟩,1000448)]⟩
def ER(a b c:LI)(d e f g:Int)(h:LI):St:=ah [(1,xb 1),(4,xo 1000256),(5,xi d),(6,xo 1000384),(7,xo 1000448),(9,xi e)] [(1,(26,[yi f,yi g,.sn 3 tI h none]))] [(1000256,(⟨3,.int .i64,a,true,false⟩:ac)),(1000384,(⟨3,.int .i64,b,true,false⟩:ac)),(1000448,(⟨3,.int .i64,c,true,false⟩:ac))]
def Ss:aa:=⟨[1,4,5,6,7,9],[1],[],[],[(⟨false,4,0⟩,1000256),(⟨false,6,0⟩,1000384),(⟨false,7,0⟩,1000448)]⟩
def um(a b c:LI)(d e f g h:Int)(i:LI):St:=ah [(1,xb 1),(4,xo 1000256),(5,xi d),(6,xo 1000384),(7,xo 1000448),(9,xi e),(10,xi f)] [(1,(26,[yi g,yi h,.sn 3 tI i none]))] [(1000256,(⟨3,.int .i64,a,true,false⟩:ac)),(1000384,(⟨3,.int .i64,b,true,false⟩:ac)),(1000448,(⟨3,.int .i64,c,true,false⟩:ac))]
def ES:aa:=⟨[1,4,5,6,7,9,10],[1],[],[],[(⟨false,4,0⟩,1000256),(⟨false,6,0⟩,1000384),(⟨false,7,0⟩,1000448)]⟩
def q8(a b:LI)(c d e f:Int)(g:LI):St:=ah [(1,xb 1),(4,xo 1000256),(5,xi c),(6,xo 1000384),(9,xi d)] [(1,(26,[yi e,yi f,.sn 3 tI g none]))] [(1000256,(⟨3,.int .i64,a,true,false⟩:ac)),(1000384,(⟨3,.int .i64,b,true,false⟩:ac))]
def zi:aa:=⟨[1,4,5,6,9],[1],[],[],[(⟨false,4,0⟩,1000256),(⟨false,6,0⟩,1000384)]⟩
def un(a b:LI)(c d e f g:Int)(h:LI):St:=ah [(1,xb 1),(4,xo 1000256),(5,xi c),(6,xo 1000384),(9,xi d),(11,xi e)] [(1,(26,[yi f,yi g,.sn 3 tI h none]))] [(1000256,(⟨3,.int .i64,a,true,false⟩:ac)),(1000384,(⟨3,.int .i64,b,true,false⟩:ac))]
def ET:aa:=⟨[1,4,5,6,9,11],[1],[],[],[(⟨false,4,0⟩,1000256),(⟨false,6,0⟩,1000384)]⟩
def il(a:LI)(b c d:Int)(e:LI):St:=ah [(1,xb 1),(4,xo 1000256),(12,xi b)] [(1,(26,[yi c,yi d,.sn 3 tI e none]))] [(1000256,(⟨3,.int .i64,a,true,false⟩:ac))]
def lA:aa:=⟨[1,4,12],[1],[],[],[(⟨false,4,0⟩,1000256)]⟩
def uo(a:LI)(b c d e:Int)(f:LI):St:=ah [(1,xb 1),(4,xo 1000256),(12,xi b),(13,xi c)] [(1,(26,[yi d,yi e,.sn 3 tI f none]))] [(1000256,(⟨3,.int .i64,a,true,false⟩:ac))]
def EU:aa:=⟨[1,4,12,13],[1],[],[],[(⟨false,4,0⟩,1000256)]⟩
def oB(a:LI):St:=ah [(4,xo 1000256)] [] [(1000256,(⟨3,.int .i64,a,true,false⟩:ac))]
def zj:aa:=⟨[4],[],[],[],[(⟨false,4,0⟩,1000256)]⟩
def jd(a:LI)(b:Bool):St:=ah [(2,xo 1000128),(3,xB b)] [] [(1000128,(⟨3,.int .i64,a,true,false⟩:ac))]
def Su:aa:=⟨[2,3],[],[⟨⟨false,2,0⟩,30000000,3,.int .i64,true⟩],[],[(⟨false,2,0⟩,1000128)]⟩
def Sv:Nat->Option aa:=aA [(2,q7),(4,zi),(6,kf),(1,kf),(0,uk),(10,lA),(9,lA),(8,zj),(1000000,Su)]
abbrev dT{J:Type}(N n:Nat)(V:St)(l:aa)(K:KT J):Option J:=ak EO bm Sv N (bf 99 (bu Try.f99) n) .n V (ax (some l) K)
def Sw N a (K:KT J):dT N 2 (Sq a) Sr K =
 aQ.Z1 N a (λb c d=>K .nrm (EP b c d)):=by kernel_rfl
def Sx N a b c (K:KT J):dT N 5 (EP a b c) uk K =
 aQ.Z3 N a b c (λd a b c=>K .nrm (lz d a b c)):=by kernel_rfl
def Sy N a b c d (K:KT J):dT N 19 (lz a b c d) kf K =
 aQ.Z6 N a b c d (λa e b c d=>K .nrm (fv a e b c d)):=by kernel_rfl
def Sz N a e b c d (K:KT J):dT N 139 (fv a e b c d) kf K =
 aQ.Z10 N a e b c d (λa e b c d=>K .nrm (fv a e b c d)) (λa b c d=>K (.exit 0) (lz a b c d)):=by kernel_rfl
def SA N a b c d e (K:KT J):dT N 1099 (fv a b c d e) kf K =
 aQ.Z14 N a b c d e (λa b c d e=>K .nrm (fv a b c d e)) (λa b c d e=>K (.exit 1) (fv a b c d e)):=by kernel_rfl
def SB N a b c d e (K:KT J):dT N 2635 (fv a b c d e) q7 K =
 aQ.Z16 N a b c d e (λa f g b c d e=>K .nrm (ki a f g b c d e)):=by kernel_rfl
def SC N a b c d e f g (K:KT J):dT N 5707 (ki a b c d e f g) q7 K =
 aQ.Z18 N a b c d e f g (λa b c d e f g=>K .nrm (ki a b c d e f g)):=by kernel_rfl
def SD N a b c d e f g (K:KT J):dT N 20043 (ki a b c d e f g) EQ K =
 aQ.Z21 N a b c d e f g (λa b c d h e f g=>K .nrm (ul a b c d h e f g)):=by kernel_rfl
def SE N a b c d h e f g (K:KT J):dT N 77387 (ul a b c d h e f g) EQ K =
 aQ.Z24 N a b c d h e f g (λa b c d h e f g=>K .nrm (ul a b c d h e f g)) (λa b c d e f g=>K (.exit 2) (ki a b c d e f g)):=by kernel_rfl
def SF N (K:KT J):=nU K (aQ.Z23L N (λa b c d e f g=>K (.exit 2) (ki a b c d e f g))) (λa b c d h e f g k=>aQ.Z24 N a b c d h e f g k (λa b c d e f g=>K (.exit 2) (ki a b c d e f g))) (λF a b c d h e f g=>SE N a b c d h e f g _) (by kernel_rfl)
def SG N a b c d e f g h (K:KT J):=vL (ul a b c d e f g h) (SF N (jK q7 K) N a b c d e f g h) (by kernel_rfl)
def SH N a b c d h e f g (K:KT J):=vB 2 q7 K (aQ.Z22 N a b c d h e f g (λa b c d e f g=>K .nrm (ki a b c d e f g))) (SG N a b c d h e f g _) (by kernel_rfl)
def SI N a b c d e f g (K:KT J):=vQ (λk=>aQ.Z21 N a b c d e f g k) (SD N a b c d e f g _) (ed λa b c d h e f g=>SH N a b c d h e f g K)
def SJ N a b c d e f g (K:KT J):dT N 24139 (ki a b c d e f g) Ss K =
 aQ.Z26 N a b c d e f g (λa b c d h e f g=>K .nrm (ER a b c d h e f g)):=by kernel_rfl
def SK N a b c d e f g h (K:KT J):dT N 81483 (ER a b c d e f g h) ES K =
 aQ.Z29 N a b c d e f g h (λa b c d e i f g h=>K .nrm (um a b c d e i f g h)):=by kernel_rfl
def SL N a b h c d i e f g (K:KT J):dT N 310859 (um a b h c d i e f g) ES K =
 aQ.Z32 N a b h c d i e f g (λa b h c d i e f g=>K .nrm (um a b h c d i e f g)) (λa b c d e f g=>K (.exit 4) (q8 a b c d e f g)):=by kernel_rfl
def SM N (K:KT J):=qe K (aQ.Z31L N (λa b c d e f g=>K (.exit 4) (q8 a b c d e f g))) (λa b h c d i e f g k=>aQ.Z32 N a b h c d i e f g k (λa b c d e f g=>K (.exit 4) (q8 a b c d e f g))) (λF a b h c d i e f g=>SL N a b h c d i e f g _) (by kernel_rfl)
def SN N a b c d e f g h i (K:KT J):=vL (um a b c d e f g h i) (SM N (jK zi K) N a b c d e f g h i) (by kernel_rfl)
def SO N a b h c d i e f g (K:KT J):=vB 4 zi K (aQ.Z30 N a b h c d i e f g (λa b c d e f g=>K .nrm (q8 a b c d e f g))) (SN N a b h c d i e f g _) (by kernel_rfl)
def SP N a b c d e f g h (K:KT J):=vQ (λk=>aQ.Z29 N a b c d e f g h k) (SK N a b c d e f g h _) (dM λa b c d e i f g h=>SO N a b c d e i f g h K)
def SQ N a b c d e f g (K:KT J):dT N 97867 (q8 a b c d e f g) ET K =
 aQ.Z34 N a b c d e f g (λa b c d h e f g=>K .nrm (un a b c d h e f g)):=by kernel_rfl
def SR N a f b g h c d e (K:KT J):dT N 327243 (un a f b g h c d e) ET K =
 aQ.Z37 N a f b g h c d e (λa f b g h c d e=>K .nrm (un a f b g h c d e)) (λa b c d e=>K (.exit 6) (fv a b c d e)):=by kernel_rfl
def SS N (K:KT J):=nU K (aQ.Z36L N (λa b c d e=>K (.exit 6) (fv a b c d e))) (λa f b g h c d e k=>aQ.Z37 N a f b g h c d e k (λa b c d e=>K (.exit 6) (fv a b c d e))) (λF a f b g h c d e=>SR N a f b g h c d e _) (by kernel_rfl)
def ST N a b c d e f g h (K:KT J):=vL (un a b c d e f g h) (SS N (jK kf K) N a b c d e f g h) (by kernel_rfl)
def SU N a f b g h c d e (K:KT J):=vB 6 kf K (aQ.Z35 N a f b g h c d e (λa b c d e=>K .nrm (fv a b c d e))) (ST N a f b g h c d e _) (by kernel_rfl)
def SW N a b c d e f g (K:KT J):=vQ (λk=>aQ.Z34 N a b c d e f g k) (SQ N a b c d e f g _) (ed λa b c d h e f g=>SU N a b c d h e f g K)
def SX N a b h c d e f g (K:KT J):=vQ (λk=>aQ.Z28 N a b h c d e f g k) (SP N a b h c d e f g _) (gV λa b c d e f g=>SW N a b c d e f g K)
def SY N a b c d e f g (K:KT J):=vQ (λk=>aQ.Z26 N a b c d e f g k) (SJ N a b c d e f g _) (ed λa b c d h e f g=>SX N a b c d h e f g K)
def SZ N a b c d e f g (K:KT J):=vQ (λk=>aQ.Z20 N a b c d e f g k) (SI N a b c d e f g _) (gV λa b c d e f g=>SY N a b c d e f g K)
def S2 N a b c d e f g (K:KT J):=vQ (λk=>aQ.Z18 N a b c d e f g k) (SC N a b c d e f g _) (gV λa b c d e f g=>SZ N a b c d e f g K)
def S3 N a b c d e (K:KT J):=vQ (λk=>aQ.Z16 N a b c d e k) (SB N a b c d e _) (gV λa f g b c d e=>S2 N a f g b c d e K)
def S4 N a b c d e (K:KT J):=vQ (λk=>aQ.Z14 N a b c d e k (λa b c d e=>K (.exit 1) (fv a b c d e))) (SA N a b c d e _) (cN λa b c d e=>S3 N a b c d e K)
def S5 N a b c d e (K:KT J):=vB 1 kf K (aQ.Z12 N a b c d e (λa b c d e=>K .nrm (fv a b c d e))) (S4 N a b c d e _) (by kernel_rfl)
def S6 N a b c d e (K:KT J):dT N 459 (fv a b c d e) kf K =
 aQ.Z38 N a b c d e (λa b c d e=>K .nrm (fv a b c d e)):=by kernel_rfl
def S7 N a b c d e (K:KT J):=vQ (λk=>aQ.Z12 N a b c d e k) (S5 N a b c d e _) (cN λa b c d e=>S6 N a b c d e K)
def S8 N a e b c d (K:KT J):=vQ (λk=>aQ.Z10 N a e b c d k (λa b c d=>K (.exit 0) (lz a b c d))) (Sz N a e b c d _) (cN λa e b c d=>S7 N a e b c d K)
def S9 N (K:KT J):=qc K (aQ.Z8L N (λa b c d=>K (.exit 0) (lz a b c d))) (λa e b c d k=>aQ.Z9 N a e b c d k (λa b c d=>K (.exit 0) (lz a b c d))) (λF a e b c d=>S8 N a e b c d _) (by kernel_rfl)
def Ta N a b c d e (K:KT J):=vL (fv a b c d e) (S9 N (jK uk K) N a b c d e) (by kernel_rfl)
def Tb N a e b c d (K:KT J):=vB 0 uk K (aQ.Z7 N a e b c d (λa b c d=>K .nrm (lz a b c d))) (Ta N a e b c d _) (by kernel_rfl)
def Tc N a b c d (K:KT J):=vQ (λk=>aQ.Z6 N a b c d k) (Sy N a b c d _) (cN λa e b c d=>Tb N a e b c d K)
def Td N a b c d (K:KT J):dT N 39 (lz a b c d) lA K =
 aQ.Z41 N a b c d (λa e b c d=>K .nrm (il a e b c d)):=by kernel_rfl
def Te N a b c d e (K:KT J):dT N 279 (il a b c d e) lA K =
 aQ.Z45 N a b c d e (λa b c d e=>K .nrm (il a b c d e)) (λa=>K (.exit 8) (oB a)):=by kernel_rfl
def Tf N a b c d e (K:KT J):dT N 2199 (il a b c d e) EU K =
 aQ.Z49 N a b c d e (λa b f c d e=>K .nrm (uo a b f c d e)):=by kernel_rfl
def Tg N a b f c d e (K:KT J):dT N 9367 (uo a b f c d e) EU K =
 aQ.Z52 N a b f c d e (λa b f c d e=>K .nrm (uo a b f c d e)) (λa b c d e=>K (.exit 10) (il a b c d e)) (λg h=>K .ret (jd g h)):=by kernel_rfl
def Th N (K:KT J):=qd K (aQ.Z51L N (λa b c d e=>K (.exit 10) (il a b c d e)) (λf g=>K .ret (jd f g))) (λa b h c d e k=>aQ.Z52 N a b h c d e k (λa b c d e=>K (.exit 10) (il a b c d e)) (λf g=>K .ret (jd f g))) (λF a b h c d e=>Tg N a b h c d e _) (by kernel_rfl)
def Ti N a b c d e f (K:KT J):=vL (uo a b c d e f) (Th N (jK lA K) N a b c d e f) (by kernel_rfl)
def Tj N a b f c d e (K:KT J):=vB 10 lA K (aQ.Z50 N a b f c d e (λa b c d e=>K .nrm (il a b c d e)) (λg h=>K .ret (jd g h))) (Ti N a b f c d e _) (by kernel_rfl)
def Tk N a b c d e (K:KT J):=vQ (λk=>aQ.Z49 N a b c d e k) (Tf N a b c d e _) (da λa b f c d e=>Tj N a b f c d e K)
def Tl N a b c d e (K:KT J):=vB 9 lA K (aQ.Z47 N a b c d e (λa b c d e=>K .nrm (il a b c d e)) (λf g=>K .ret (jd f g))) (Tk N a b c d e _) (by kernel_rfl)
def Tm N a b c d e (K:KT J):dT N 919 (il a b c d e) lA K =
 aQ.Z53 N a b c d e (λa b c d e=>K .nrm (il a b c d e)):=by kernel_rfl
def Tn N a b c d e (K:KT J):=vQ (λk=>aQ.Z47 N a b c d e k (λf g=>K .ret (jd f g))) (Tl N a b c d e _) (cN λa b c d e=>Tm N a b c d e K)
def To N a b c d e (K:KT J):=vQ (λk=>aQ.Z45 N a b c d e k (λa=>K (.exit 8) (oB a))) (Te N a b c d e _) (cN λa b c d e=>Tn N a b c d e K)
def Tq N (K:KT J):=qc K (aQ.Z43L N (λa=>K (.exit 8) (oB a)) (λb c=>K .ret (jd b c))) (λa d e f g k=>aQ.Z44 N a d e f g k (λa=>K (.exit 8) (oB a)) (λb c=>K .ret (jd b c))) (λF a d e f g=>To N a d e f g _) (by kernel_rfl)
def Tr N a b c d e (K:KT J):=vL (il a b c d e) (Tq N (jK zj K) N a b c d e) (by kernel_rfl)
def Ts N a b c d e (K:KT J):=vB 8 zj K (aQ.Z42 N a b c d e (λa=>K .nrm (oB a)) (λf g=>K .ret (jd f g))) (Tr N a b c d e _) (by kernel_rfl)
def Tt N a b c d (K:KT J):=vQ (λk=>aQ.Z41 N a b c d k) (Td N a b c d _) (cN λa e b c d=>Ts N a e b c d K)
def Tu N a (K:KT J):dT N 31 (oB a) Sp K =
 aQ.Z54 N a (λb c=>K .ret (jd b c)):=by kernel_rfl
def Tv N a b c d (K:KT J):=vQ (λk=>aQ.Z40 N a b c d k (λe f=>K .ret (jd e f))) (Tt N a b c d _) (funext λa=>Tu N a K)
def Tw N a b c d (K:KT J):=vQ (λk=>aQ.Z5 N a b c d k) (Tc N a b c d _) (d9 λa b c d=>Tv N a b c d K)
def Tx N a b c (K:KT J):=vQ (λk=>aQ.Z3 N a b c k) (Sx N a b c _) (d9 λd a b c=>Tw N d a b c K)
def Tz N a (K:KT J):=vQ (λk=>aQ.Z1 N a k) (Sw N a _) (fG λb c d=>Tx N b c d K)
def TA(h:aQ.Spec):aG Try.prog 99 zh :=
 bQ Try.func99 bv So (λN X K=>Tz N X.1 K) (by kernel_rfl) λX hb hp=>by obtain⟨a,_⟩:=X;obtain⟨N,h⟩:=h a hb.1 hp;exact⟨N,Eq.trans (by kernel_rfl) (h N (Nat.le_refl N))⟩
def TB:aG Try.prog 99 zh:=TA aQ.ok
def EV:bC:=⟨[⟨.pair (.int .i64) (.pair (.int .i64) (.sl 3 (.int .i64))),true,false⟩],[⟨.bool,false,false⟩]⟩
def zk:a8:=⟨EV,none,λX=>((),((ky.g X.1),()))⟩
def EW:Gm:=aY (aY bk 78 ud) 99 zh
def TC:au Try.prog EW:=((au.nil).add Ew (by kernel_rfl)).add TB (by kernel_rfl)
def TD:aa:=⟨[],[],[],[],[]⟩
def TE(a:MT):St:=bH EV.ps (a,())
def TF(a:Bool):St:=ah [(2,xB a)] [] []
def TG:aa:=⟨[2],[],[],[],[]⟩
def TH:Nat->Option aa:=aA [(1000000,TG)]
abbrev TJ{J:Type}(N n:Nat)(V:St)(l:aa)(K:KT J):Option J:=ak EW bm TH N (bf 99 (bu Try.f72) n) .n V (ax (some l) K)
def TK N a (K:KT J):TJ N 1 (TE a) TD K =
 ky.Z0 N a (λb=>K .ret (TF b)):=by kernel_rfl
def TL(h:ky.Spec):aG Try.prog 72 zk :=
 bQ Try.func72 bv TC (λN X K=>TK N X.1 K) (by kernel_rfl) λX hb hp=>by obtain⟨a,_⟩:=X;obtain⟨N,h⟩:=h a hb.1;exact⟨N,Eq.trans (by kernel_rfl) (h N (Nat.le_refl N))⟩
def TM:aG Try.prog 72 zk:=TL ky.ok
def EX:bC:=⟨[⟨.sl 3 (.int .i64),false,false⟩],[⟨.sl 3 (.int .i64),false,false⟩]⟩
def zl:a8:=⟨EX,(some λX=>it.P X.1),λX=>((),((it.g X.1),()))⟩
def EY:Gm:=bk
def TN:au Try.prog EY:=au.nil
def TO:aa:=⟨[],[],[],[],[]⟩
def TP(a:LI):St:=bH EX.ps (a,())
def TQ(a:LI):St:=ah [(2,xo 1000128)] [] [(1000128,(⟨3,.int .i64,a,true,false⟩:ac))]
def TR:aa:=⟨[2],[],[],[],[(⟨false,2,0⟩,1000128)]⟩
def TS:Nat->Option aa:=aA [(1000000,TR)]
abbrev TT{J:Type}(N n:Nat)(V:St)(l:aa)(K:KT J):Option J:=ak EY bm TS N (bf 99 (bu Try.f98) n) .n V (ax (some l) K)
def TU N a (K:KT J):TT N 1 (TP a) TO K =
 it.Z0 N a (λb=>K .ret (TQ b)):=by kernel_rfl
def TV(h:it.Spec):aG Try.prog 98 zl :=
 bQ Try.func98 bv TN (λN X K=>TU N X.1 K) (by kernel_rfl) λX hb hp=>by obtain⟨a,_⟩:=X;obtain⟨N,h⟩:=h a hb.1 hp;exact⟨N,Eq.trans (by kernel_rfl) (h N (Nat.le_refl N))⟩
def TW:aG Try.prog 98 zl:=TV it.ok
def EZ:bC:=⟨[⟨.pair (.int .i64) (.pair (.int .i64) (.sl 3 (.int .i64))),true,false⟩],[⟨.pair (.int .i64) (.pair (.int .i64) (.sl 3 (.int .i64))),true,false⟩]⟩
def uq:a8:=⟨EZ,(some λX=>eR.P X.1),λX=>((),((eR.g X.1),()))⟩
def E3:Gm:=aY bk 98 zl
def TX:au Try.prog E3:=(au.nil).add TW (by kernel_rfl)
def TY:aa:=⟨[],[],[],[],[]⟩
def TZ(a:MT):St:=bH EZ.ps (a,())
def T0(a:LI)(b c:Int):St:=ah [(2,xb 2)] [(2,(26,[yi b,yi c,.own 20000130]))] [(20000130,(⟨3,.int .i64,a,true,false⟩:ac))]
def T1:aa:=⟨[2],[2],[],[],[(⟨true,2,2⟩,20000130)]⟩
def T4:Nat->Option aa:=aA [(1000000,T1)]
abbrev T5{J:Type}(N n:Nat)(V:St)(l:aa)(K:KT J):Option J:=ak E3 bm T4 N (bf 99 (bu Try.f83) n) .n V (ax (some l) K)
def T6 N a (K:KT J):T5 N 1 (TZ a) TY K =
 eR.Z0 N a (λb c d=>K .ret (T0 b c d)):=by kernel_rfl
def T7(h:eR.Spec):aG Try.prog 83 uq :=
 bQ Try.func83 bv TX (λN X K=>T6 N X.1 K) (by kernel_rfl) λX hb hp=>by obtain⟨a,_⟩:=X;obtain⟨N,h⟩:=h a hb.1 hp;exact⟨N,Eq.trans (by kernel_rfl) (h N (Nat.le_refl N))⟩
def E4:aG Try.prog 83 uq:=T7 eR.ok
def E5:bC:=⟨[⟨.pair (.int .i64) (.pair (.int .i64) (.sl 3 (.int .i64))),true,false⟩,⟨.int .i64,false,false⟩],[⟨.pair (.int .i64) (.pair (.int .i64) (.sl 3 (.int .i64))),true,false⟩]⟩
def zm:a8:=⟨E5,(some λX=>bI.P X.1 X.2.1),λX=>((),((bI.g X.1 X.2.1),()))⟩
def E6:Gm:=aY (aY bk 75 mU) 83 uq
def T8:au Try.prog E6:=((au.nil).add qX (by kernel_rfl)).add E4 (by kernel_rfl)
def T9:aa:=⟨[],[],[],[],[]⟩
def Ua(a:MT)(b:Int):St:=bH E5.ps (a,(b,()))
def E7(a b c:Int)(d:LI)(e f:Int):St:=ah [(1,xi a),(2,xb 2),(4,xb 4)] [(2,(26,[yi b,yi c,.sn 3 tI d none])),(4,(26,[yi e,yi f,.nil]))] []
def Ub:aa:=⟨[1,2,4],[2,4],[],[],[]⟩
def E8(a:LI)(b c d:Int)(e:LI)(f g h i:Int):St:=ah [(1,xi b),(2,xb 2),(4,xb 4),(5,xb 5)] [(2,(26,[yi c,yi d,.sn 3 tI e none])),(4,(26,[yi f,yi g,.nil])),(5,(26,[yi h,yi i,.own 20000322]))] [(20000322,(⟨3,.int .i64,a,true,false⟩:ac))]
def Uc:aa:=⟨[1,2,4,5],[2,4,5],[],[],[(⟨true,5,2⟩,20000322)]⟩
def gG(a:LI)(b c d e:Int)(f:LI)(g h i j:Int):St:=ah [(1,xi b),(2,xb 2),(4,xb 4),(5,xb 5),(6,xi c)] [(2,(26,[yi d,yi e,.sn 3 tI f none])),(4,(26,[yi g,yi h,.nil])),(5,(26,[yi i,yi j,.own 20000322]))] [(20000322,(⟨3,.int .i64,a,true,false⟩:ac))]
def lB:aa:=⟨[1,2,4,5,6],[2,4,5],[],[],[(⟨true,5,2⟩,20000322)]⟩
def jG(a:LI)(b c d e f:Int)(g:LI)(h i j l:Int):St:=ah [(1,xi b),(2,xb 2),(4,xb 4),(5,xb 5),(6,xi c),(7,xi d)] [(2,(26,[yi e,yi f,.sn 3 tI g none])),(4,(26,[yi h,yi i,.nil])),(5,(26,[yi j,yi l,.own 20000322]))] [(20000322,(⟨3,.int .i64,a,true,false⟩:ac))]
def lC:aa:=⟨[1,2,4,5,6,7],[2,4,5],[],[],[(⟨true,5,2⟩,20000322)]⟩
def E9(a:LI)(b c d e f g:Int)(h:LI)(i j l m:Int):St:=ah [(1,xi b),(2,xb 2),(4,xb 4),(5,xb 5),(6,xi c),(7,xi d),(8,xi e)] [(2,(26,[yi f,yi g,.sn 3 tI h none])),(4,(26,[yi i,yi j,.nil])),(5,(26,[yi l,yi m,.own 20000322]))] [(20000322,(⟨3,.int .i64,a,true,false⟩:ac))]
def Ud:aa:=⟨[1,2,4,5,6,7,8],[2,4,5],[],[],[(⟨true,5,2⟩,20000322)]⟩
def Fa(a:LI)(b c d e f g h:Int)(i:LI)(j l m o:Int):St:=ah [(1,xi b),(2,xb 2),(4,xb 4),(5,xb 5),(6,xi c),(7,xi d),(8,xi e),(9,xi f)] [(2,(26,[yi g,yi h,.sn 3 tI i none])),(4,(26,[yi j,yi l,.nil])),(5,(26,[yi m,yi o,.own 20000322]))] [(20000322,(⟨3,.int .i64,a,true,false⟩:ac))]
def Ue:aa:=⟨[1,2,4,5,6,7,8,9],[2,4,5],[],[],[(⟨true,5,2⟩,20000322)]⟩
def Fb(a:LI)(b c d e f:Int)(g:Bool)(h i:Int)(j:LI)(l m o p:Int):St:=ah [(1,xi b),(2,xb 2),(4,xb 4),(5,xb 5),(6,xi c),(7,xi d),(8,xi e),(9,xi f),(32,xB g)] [(2,(26,[yi h,yi i,.sn 3 tI j none])),(4,(26,[yi l,yi m,.nil])),(5,(26,[yi o,yi p,.own 20000322]))] [(20000322,(⟨3,.int .i64,a,true,false⟩:ac))]
def Uf:aa:=⟨[1,2,4,5,6,7,8,9,32],[2,4,5],[],[],[(⟨true,5,2⟩,20000322)]⟩
def oC(a:LI)(b c d e:Int):St:=ah [(4,xb 4),(5,xb 5)] [(4,(26,[yi b,yi c,.nil])),(5,(26,[yi d,yi e,.own 20000322]))] [(20000322,(⟨3,.int .i64,a,true,false⟩:ac))]
def zn:aa:=⟨[4,5],[4,5],[],[],[(⟨true,5,2⟩,20000322)]⟩
def Ug(a:LI)(b c:Int):St:=ah [(4,xb 4)] [(4,(26,[yi b,yi c,.own 20000258]))] [(20000258,(⟨3,.int .i64,a,true,false⟩:ac))]
def Uh:aa:=⟨[4],[4],[],[],[(⟨true,4,2⟩,20000258)]⟩
def Ui:Nat->Option aa:=aA [(4,lC),(3,lC),(2,lB),(1,lB),(0,zn),(1000000,Uh)]
abbrev gH{J:Type}(N n:Nat)(V:St)(l:aa)(K:KT J):Option J:=ak E6 bm Ui N (bf 99 (bu Try.f77) n) .n V (ax (some l) K)
def Uj N b a (K:KT J):gH N 2 (Ua b a) Ub K =
 bI.Z1 N b a (λa c d e f g=>K .nrm (E7 a c d e f g)):=by kernel_rfl
def Uk N a b c d e f (K:KT J):gH N 5 (E7 a b c d e f) Uc K =
 bI.Z3 N a b c d e f (λg a b c d e f h i=>K .nrm (E8 g a b c d e f h i)):=by kernel_rfl
def Ul N a b c d e f g h i (K:KT J):gH N 19 (E8 a b c d e f g h i) lB K =
 bI.Z6 N a b c d e f g h i (λa b j c d e f g h i=>K .nrm (gG a b j c d e f g h i)):=by kernel_rfl
def Um N a f g h i j b c d e (K:KT J):gH N 139 (gG a f g h i j b c d e) lB K =
 bI.Z10 N a f g h i j b c d e (λa f g h i j b c d e=>K .nrm (gG a f g h i j b c d e)) (λa b c d e=>K (.exit 0) (oC a b c d e)):=by kernel_rfl
def Un N a b c d e f g h i j (K:KT J):gH N 1099 (gG a b c d e f g h i j) lC K =
 bI.Z14 N a b c d e f g h i j (λa b c l d e f g h i j=>K .nrm (jG a b c l d e f g h i j)):=by kernel_rfl
def Uo N a b c l d e f g h i j (K:KT J):gH N 8779 (jG a b c l d e f g h i j) lC K =
 bI.Z18 N a b c l d e f g h i j (λa b c l d e f g h i j=>K .nrm (jG a b c l d e f g h i j)) (λa b c d e f g h i j=>K (.exit 2) (gG a b c d e f g h i j)):=by kernel_rfl
def Up N a b c d e f g h i j l (K:KT J):gH N 70219 (jG a b c d e f g h i j l) Ud K =
 bI.Z22 N a b c d e f g h i j l (λa b c d m e f g h i j l=>K .nrm (E9 a b c d m e f g h i j l)):=by kernel_rfl
def Uq N a b c d e f g h i j l m (K:KT J):gH N 168523 (E9 a b c d e f g h i j l m) Ue K =
 bI.Z24 N a b c d e f g h i j l m (λa b c d e o f g h i j l m=>K .nrm (Fa a b c d e o f g h i j l m)):=by kernel_rfl
def Ur N a b c d e f g h i j l m o (K:KT J):gH N 627275 (Fa a b c d e f g h i j l m o) Uf K =
 bI.Z27 N a b c d e f g h i j l m o (λa b c d e f p g h i j l m o=>K .nrm (Fb a b c d e f p g h i j l m o)):=by kernel_rfl
def Us N a b c d m o p e f g h i j l (K:KT J):gH N 889419 (Fb a b c d m o p e f g h i j l) lC K =
 bI.Z28 N a b c d m o p e f g h i j l (λa b c d e f g h i j l=>K .nrm (jG a b c d e f g h i j l)):=by kernel_rfl
def Ut N a b c d e f g h i j l m o (K:KT J):=vQ (λk=>bI.Z27 N a b c d e f g h i j l m o k) (Ur N a b c d e f g h i j l m o _) (nR λa b c d e f p g h i j l m o=>Us N a b c d e f p g h i j l m o K)
def Uu N a b c d m o e f g h i j l (K:KT J):=vB 4 lC K (bI.Z25 N a b c d m o e f g h i j l (λa b c d e f g h i j l=>K .nrm (jG a b c d e f g h i j l))) (Ut N a b c d m o e f g h i j l _) (by kernel_rfl)
def Uv N a b c d e f g h i j l m (K:KT J):=vQ (λk=>bI.Z24 N a b c d e f g h i j l m k) (Uq N a b c d e f g h i j l m _) (iG λa b c d e o f g h i j l m=>Uu N a b c d e o f g h i j l m K)
def Uw N a b c d e f g h i j l (K:KT J):=vQ (λk=>bI.Z22 N a b c d e f g h i j l k) (Up N a b c d e f g h i j l _) (jo λa b c d m e f g h i j l=>Uv N a b c d m e f g h i j l K)
def Ux N a b c d e f g h i j l (K:KT J):=vB 3 lC K (bI.Z20 N a b c d e f g h i j l (λa b c d e f g h i j l=>K .nrm (jG a b c d e f g h i j l))) (Uw N a b c d e f g h i j l _) (by kernel_rfl)
def Uy N a b c d e f g h i j l (K:KT J):gH N 29259 (jG a b c d e f g h i j l) lC K =
 bI.Z29 N a b c d e f g h i j l (λa b c d e f g h i j l=>K .nrm (jG a b c d e f g h i j l)):=by kernel_rfl
def Uz N a b c d e f g h i j l (K:KT J):=vQ (λk=>bI.Z20 N a b c d e f g h i j l k) (Ux N a b c d e f g h i j l _) (fT λa b c d e f g h i j l=>Uy N a b c d e f g h i j l K)
def UA N a b c l d e f g h i j (K:KT J):=vQ (λk=>bI.Z18 N a b c l d e f g h i j k (λa b c d e f g h i j=>K (.exit 2) (gG a b c d e f g h i j))) (Uo N a b c l d e f g h i j _) (fT λa b c l d e f g h i j=>Uz N a b c l d e f g h i j K)
def UB N (K:KT J):=s8 K (bI.Z16L N (λa b c d e f g h i j=>K (.exit 2) (gG a b c d e f g h i j))) (λa b c l d e f g h i j k=>bI.Z17 N a b c l d e f g h i j k (λa b c d e f g h i j=>K (.exit 2) (gG a b c d e f g h i j))) (λF a b c l d e f g h i j=>UA N a b c l d e f g h i j _) (by kernel_rfl)
def UC N a b c d e f g h i j l (K:KT J):=vL (jG a b c d e f g h i j l) (UB N (jK lB K) N a b c d e f g h i j l) (by kernel_rfl)
def UD N a b c l d e f g h i j (K:KT J):=vB 2 lB K (bI.Z15 N a b c l d e f g h i j (λa b c d e f g h i j=>K .nrm (gG a b c d e f g h i j))) (UC N a b c l d e f g h i j _) (by kernel_rfl)
def UE N a b c d e f g h i j (K:KT J):=vQ (λk=>bI.Z14 N a b c d e f g h i j k) (Un N a b c d e f g h i j _) (fT λa b c l d e f g h i j=>UD N a b c l d e f g h i j K)
def UF N a b c d e f g h i j (K:KT J):=vB 1 lB K (bI.Z12 N a b c d e f g h i j (λa b c d e f g h i j=>K .nrm (gG a b c d e f g h i j))) (UE N a b c d e f g h i j _) (by kernel_rfl)
def UG N a b c d e f g h i j (K:KT J):gH N 459 (gG a b c d e f g h i j) lB K =
 bI.Z30 N a b c d e f g h i j (λa b c d e f g h i j=>K .nrm (gG a b c d e f g h i j)):=by kernel_rfl
def UH N a b c d e f g h i j (K:KT J):=vQ (λk=>bI.Z12 N a b c d e f g h i j k) (UF N a b c d e f g h i j _) (dN λa b c d e f g h i j=>UG N a b c d e f g h i j K)
def UI N a f g h i j b c d e (K:KT J):=vQ (λk=>bI.Z10 N a f g h i j b c d e k (λa b c d e=>K (.exit 0) (oC a b c d e))) (Um N a f g h i j b c d e _) (dN λa f g h i j b c d e=>UH N a f g h i j b c d e K)
def UJ N (K:KT J):=kU K (bI.Z8L N (λa b c d e=>K (.exit 0) (oC a b c d e))) (λa f g h i j b c d e k=>bI.Z9 N a f g h i j b c d e k (λa b c d e=>K (.exit 0) (oC a b c d e))) (λF a f g h i j b c d e=>UI N a f g h i j b c d e _) (by kernel_rfl)
def UK N a b c d e f g h i j (K:KT J):=vL (gG a b c d e f g h i j) (UJ N (jK zn K) N a b c d e f g h i j) (by kernel_rfl)
def UL N a f g h i j b c d e (K:KT J):=vB 0 zn K (bI.Z7 N a f g h i j b c d e (λa b c d e=>K .nrm (oC a b c d e))) (UK N a f g h i j b c d e _) (by kernel_rfl)
def UM N a b c d e f g h i (K:KT J):=vQ (λk=>bI.Z6 N a b c d e f g h i k) (Ul N a b c d e f g h i _) (dN λa b j c d e f g h i=>UL N a b j c d e f g h i K)
def UN N c a b d e (K:KT J):gH N 15 (oC c a b d e) T9 K =
 bI.Z31 N c a b d e (λf a b=>K .ret (Ug f a b)):=by kernel_rfl
def UO N a f g h i b c d e (K:KT J):=vQ (λk=>bI.Z5 N a f g h i b c d e k) (UM N a f g h i b c d e _) (cN λa b c d e=>UN N a b c d e K)
def UP N a b c d e f (K:KT J):=vQ (λk=>bI.Z3 N a b c d e f k) (Uk N a b c d e f _) (dM λg a b c d e f h i=>UO N g a b c d e f h i K)
def UQ N b a (K:KT J):=vQ (λk=>bI.Z1 N b a k) (Uj N b a _) (da λa c d e f g=>UP N a c d e f g K)
def UR(h:bI.Spec):aG Try.prog 77 zm :=
 bQ Try.func77 bv T8 (λN X K=>UQ N X.1 X.2.1 K) (by kernel_rfl) λX hb hp=>by obtain⟨a,b,_⟩:=X;obtain⟨N,h⟩:=h a b hb.1 hp;exact⟨N,Eq.trans (by kernel_rfl) (h N (Nat.le_refl N))⟩
def US:aG Try.prog 77 zm:=UR bI.ok
def Fc:bC:=⟨[⟨.pair (.int .i64) (.pair (.int .i64) (.sl 3 (.int .i64))),true,false⟩,⟨.int .i64,false,false⟩],[⟨.pair (.int .i64) (.pair (.int .i64) (.sl 3 (.int .i64))),true,false⟩,⟨.bool,false,false⟩]⟩
def zo:a8:=⟨Fc,none,λX=>((),((fb.g X.1 X.2.1).1,((fb.g X.1 X.2.1).2,())))⟩
def Fd:Gm:=aY (aY (aY (aY bk 72 zk) 76 uc) 77 zm) 78 ud
def UT:au Try.prog Fd:=((((au.nil).add TM (by kernel_rfl)).add Eo (by kernel_rfl)).add US (by kernel_rfl)).add Ew (by kernel_rfl)
def UU:aa:=⟨[],[],[],[],[]⟩
def UV(a:MT)(b:Int):St:=bH Fc.ps (a,(b,()))
def UW(a:LI)(b:Bool)(c d:Int):St:=ah [(4,xb 4),(5,xB b)] [(4,(26,[yi c,yi d,.own 20000258]))] [(20000258,(⟨3,.int .i64,a,true,false⟩:ac))]
def UX:aa:=⟨[4,5],[4],[⟨⟨true,4,2⟩,30000000,3,.int .i64,true⟩],[],[(⟨true,4,2⟩,20000258)]⟩
def UY:Nat->Option aa:=aA [(1000000,UX)]
abbrev UZ{J:Type}(N n:Nat)(V:St)(l:aa)(K:KT J):Option J:=ak Fd bm UY N (bf 99 (bu Try.f39) n) .n V (ax (some l) K)
def U0 N a b (K:KT J):UZ N 1 (UV a b) UU K =
 fb.Z0 N a b (λc d e f=>K .ret (UW c d e f)):=by kernel_rfl
def U1(h:fb.Spec):aG Try.prog 39 zo :=
 bQ Try.func39 bv UT (λN X K=>U0 N X.1 X.2.1 K) (by kernel_rfl) λX hb hp=>by obtain⟨a,b,_⟩:=X;obtain⟨N,h⟩:=h a b hb.1;exact⟨N,Eq.trans (by kernel_rfl) (h N (Nat.le_refl N))⟩
def U2:aG Try.prog 39 zo:=U1 fb.ok
def Fe:cV:=⟨94,[(5,.int .u8)],.pair (.int .i64) (.int .i64)⟩
def Ff:List PT:=[⟨.int .i64,false,false⟩]
def U3:List PT:=[⟨.sl 3 (.int .i64),false,false⟩]
def zp:d7:=⟨Fe,Ff,true,U3,(some λX=>cj.P X.1.1.1 X.1.2 X.2.1),λX=>((cj.g X.1.1.1 X.1.2 X.2.1).1,((),((cj.g X.1.1.1 X.1.2 X.2.1).2,())))⟩
def Fg:Gm:=addV bk 94 mQ
def U4:au Try.prog Fg:=(au.nil).addV qT (by kernel_rfl)
def U5:aa:=⟨[],[],[],[],[]⟩
def U6(u0:Value)(b0:List Int)(r0:Int×Int)(a:Int):St:=dH Fe Ff [u0] (((b0,()),r0),(a,()))
def Fh(u0:Value)(a:Int)(b:List Int)(c d:Int):St:=ah [(0,xb 100000),(1,xi a),(100000,xb 100000)] [(100000,(94,[.bor u0 5 (.int .u8) b,yi c,yi d]))] []
def U7:aa:=⟨[0,1,100000],[100000],[],[],[]⟩
def Fi(u0:Value)(a:LI)(b:Int)(c:List Int)(d e:Int):St:=ah [(0,xb 100000),(1,xi b),(5,xo 1000320),(100000,xb 100000)] [(100000,(94,[.bor u0 5 (.int .u8) c,yi d,yi e]))] [(1000320,(⟨3,.int .i64,a,true,false⟩:ac))]
def U8:aa:=⟨[0,1,5,100000],[100000],[],[],[(⟨false,5,0⟩,1000320)]⟩
def ur(u0:Value)(a:LI)(b c:Int)(d:List Int)(e f:Int):St:=ah [(0,xb 100000),(1,xi b),(5,xo 1000320),(6,xi c),(100000,xb 100000)] [(100000,(94,[.bor u0 5 (.int .u8) d,yi e,yi f]))] [(1000320,(⟨3,.int .i64,a,true,false⟩:ac))]
def Fj:aa:=⟨[0,1,5,6,100000],[100000],[],[],[(⟨false,5,0⟩,1000320)]⟩
def q9(u0:Value)(a:LI)(b:List Int)(c d:Int):St:=ah [(5,xo 1000320),(100000,xb 100000)] [(100000,(94,[.bor u0 5 (.int .u8) b,yi c,yi d]))] [(1000320,(⟨3,.int .i64,a,true,false⟩:ac))]
def zq:aa:=⟨[5,100000],[100000],[],[],[(⟨false,5,0⟩,1000320)]⟩
def U9(u0:Value)(a:LI)(b:List Int)(c d:Int):St:=ah [(4,xo 1000256),(100000,xb 100000)] [(100000,(94,[.bor u0 5 (.int .u8) b,yi c,yi d]))] [(1000256,(⟨3,.int .i64,a,true,false⟩:ac))]
def Va:aa:=⟨[4,100000],[100000],[],[],[(⟨false,4,0⟩,1000256)]⟩
def Vb:Nat->Option aa:=aA [(0,zq),(1000000,Va)]
abbrev ra{J:Type}(N n:Nat)(V:St)(l:aa)(K:KT J):Option J:=ak Fg bm Vb N (bf 99 (bu Try.f111) n) .n V (ax (some l) K)
def Vc N u0 b0 r0 a (K:KT J):ra N 2 (U6 u0 b0 r0 a) U7 K =
 cj.Z1 N b0 r0 a (λa b c d=>K .nrm (Fh u0 a b c d)):=by kernel_rfl
def Vd N u0 a b c d (K:KT J):ra N 5 (Fh u0 a b c d) U8 K =
 cj.Z3 N a b c d (λe a b c d=>K .nrm (Fi u0 e a b c d)):=by kernel_rfl
def Ve N u0 a b c d e (K:KT J):ra N 19 (Fi u0 a b c d e) Fj K =
 cj.Z6 N a b c d e (λa b f c d e=>K .nrm (ur u0 a b f c d e)):=by kernel_rfl
def Vf N u0 a e f b c d (K:KT J):ra N 75 (ur u0 a e f b c d) Fj K =
 cj.Z9 N a e f b c d (λa e f b c d=>K .nrm (ur u0 a e f b c d)) (λa b c d=>K (.exit 0) (q9 u0 a b c d)):=by kernel_rfl
def Vg N u0 (K:KT J):=qd K (cj.Z8L N (λa b c d=>K (.exit 0) (q9 u0 a b c d))) (λa e f b c d k=>cj.Z9 N a e f b c d k (λa b c d=>K (.exit 0) (q9 u0 a b c d))) (λF a e f b c d=>Vf N u0 a e f b c d _) (by kernel_rfl)
def Vh N u0 a b c d e f (K:KT J):=vL (ur u0 a b c d e f) (Vg N u0 (jK zq K) N a b c d e f) (by kernel_rfl)
def Vi N u0 a e f b c d (K:KT J):=vB 0 zq K (cj.Z7 N a e f b c d (λa b c d=>K .nrm (q9 u0 a b c d))) (Vh N u0 a e f b c d _) (by kernel_rfl)
def Vj N u0 a b c d e (K:KT J):=vQ (λk=>cj.Z6 N a b c d e k) (Ve N u0 a b c d e _) (da λa b f c d e=>Vi N u0 a b f c d e K)
def Vk N u0 d a b c (K:KT J):ra N 15 (q9 u0 d a b c) U5 K =
 cj.Z10 N d a b c (λe a b c=>K .ret (U9 u0 e a b c)):=by kernel_rfl
def Vl N u0 a e b c d (K:KT J):=vQ (λk=>cj.Z5 N a e b c d k) (Vj N u0 a e b c d _) (d9 λa b c d=>Vk N u0 a b c d K)
def Vm N u0 a b c d (K:KT J):=vQ (λk=>cj.Z3 N a b c d k) (Vd N u0 a b c d _) (cN λe a b c d=>Vl N u0 e a b c d K)
def Vn N u0 b0 r0 a (K:KT J):=vQ (λk=>cj.Z1 N b0 r0 a k) (Vc N u0 b0 r0 a _) (d9 λa b c d=>Vm N u0 a b c d K)
def Vo(h:cj.Spec):dv Try.prog 111 zp :=
 jZ Try.func111 bv U4 (λN u X K=>Vn N u X.1.1.1 X.1.2 X.2.1 K) (by kernel_rfl) λu0 X hb1 hb2 hp=>by obtain⟨⟨⟨b0,_⟩,r0⟩,a,_⟩:=X;obtain⟨N,h⟩:=h [u0] b0 r0 a hb1.1 hp;exact⟨N,Eq.trans (by kernel_rfl) (h N (Nat.le_refl N))⟩
def Vp:dv Try.prog 111 zp:=Vo cj.ok
def Fk:bC:=⟨[⟨.pair (.int .i64) (.pair (.int .i64) (.sl 3 (.int .i64))),true,false⟩,⟨.sl 3 (.int .i64),false,false⟩],[⟨.pair (.int .i64) (.pair (.int .i64) (.sl 3 (.int .i64))),true,false⟩]⟩
def zr:a8:=⟨Fk,(some λX=>bY.P X.1 X.2.1),λX=>((),((bY.g X.1 X.2.1),()))⟩
def Fl:Gm:=aY (aY bk 75 mU) 83 uq
def Vq:au Try.prog Fl:=((au.nil).add qX (by kernel_rfl)).add E4 (by kernel_rfl)
def Vr:aa:=⟨[],[],[],[],[]⟩
def Vs(a:MT)(b:LI):St:=bH Fk.ps (a,(b,()))
def Fm(a:LI)(b d:Int)(e:LI)(f g:Int):St:=ah [(1,.c (.sn 3 tI a none)),(2,xb 2),(4,xb 4)] [(2,(26,[yi b,yi d,.sn 3 tI e none])),(4,(26,[yi f,yi g,.nil]))] []
def Vt:aa:=⟨[1,2,4],[2,4],[],[],[]⟩
def Fn(a b:LI)(d e:Int)(f:LI)(g h i j:Int):St:=ah [(1,.c (.sn 3 tI b none)),(2,xb 2),(4,xb 4),(5,xb 5)] [(2,(26,[yi d,yi e,.sn 3 tI f none])),(4,(26,[yi g,yi h,.nil])),(5,(26,[yi i,yi j,.own 20000322]))] [(20000322,(⟨3,.int .i64,a,true,false⟩:ac))]
def Vu:aa:=⟨[1,2,4,5],[2,4,5],[],[],[(⟨true,5,2⟩,20000322)]⟩
def ip(a b:LI)(d e f:Int)(g:LI)(h i j l:Int):St:=ah [(1,.c (.sn 3 tI b none)),(2,xb 2),(4,xb 4),(5,xb 5),(6,xi d)] [(2,(26,[yi e,yi f,.sn 3 tI g none])),(4,(26,[yi h,yi i,.nil])),(5,(26,[yi j,yi l,.own 20000322]))] [(20000322,(⟨3,.int .i64,a,true,false⟩:ac))]
def lD:aa:=⟨[1,2,4,5,6],[2,4,5],[],[],[(⟨true,5,2⟩,20000322)]⟩
def ut(a b:LI)(d e f g:Int)(h:LI)(i j l m:Int):St:=ah [(1,.c (.sn 3 tI b none)),(2,xb 2),(4,xb 4),(5,xb 5),(6,xi d),(7,xi e)] [(2,(26,[yi f,yi g,.sn 3 tI h none])),(4,(26,[yi i,yi j,.nil])),(5,(26,[yi l,yi m,.own 20000322]))] [(20000322,(⟨3,.int .i64,a,true,false⟩:ac))]
def Fo:aa:=⟨[1,2,4,5,6,7],[2,4,5],[],[],[(⟨true,5,2⟩,20000322)]⟩
def uu(a b:LI)(d e f g h:Int)(i:LI)(j l m o:Int):St:=ah [(1,.c (.sn 3 tI b none)),(2,xb 2),(4,xb 4),(5,xb 5),(6,xi d),(7,xi e),(8,xi f)] [(2,(26,[yi g,yi h,.sn 3 tI i none])),(4,(26,[yi j,yi l,.nil])),(5,(26,[yi m,yi o,.own 20000322]))] [(20000322,(⟨3,.int .i64,a,true,false⟩:ac))]
def Fp:aa:=⟨[1,2,4,5,6,7,8],[2,4,5],[],[],[(⟨true,5,2⟩,20000322)]⟩
def oD(a:LI)(b c d e:Int):St:=ah [(4,xb 4),(5,xb 5)] [(4,(26,[yi b,yi c,.nil])),(5,(26,[yi d,yi e,.own 20000322]))] [(20000322,(⟨3,.int .i64,a,true,false⟩:ac))]
def zt:aa:=⟨[4,5],[4,5],[],[],[(⟨true,5,2⟩,20000322)]⟩
def Vv(a:LI)(b c:Int):St:=ah [(4,xb 4)] [(4,(26,[yi b,yi c,.own 20000258]))] [(20000258,(⟨3,.int .i64,a,true,false⟩:ac))]
def Vw:aa:=⟨[4],[4],[],[],[(⟨true,4,2⟩,20000258)]⟩
def Vx:Nat->Option aa:=aA [(2,lD),(1,lD),(0,zt),(1000000,Vw)]
abbrev jH{J:Type}(N n:Nat)(V:St)(l:aa)(K:KT J):Option J:=ak Fl bm Vx N (bf 99 (bu Try.f81) n) .n V (ax (some l) K)
def Vy N b a (K:KT J):jH N 2 (Vs b a) Vt K =
 bY.Z1 N b a (λa c d e f g=>K .nrm (Fm a c d e f g)):=by kernel_rfl
def Vz N a b c d e f (K:KT J):jH N 5 (Fm a b c d e f) Vu K =
 bY.Z3 N a b c d e f (λg a b c d e f h i=>K .nrm (Fn g a b c d e f h i)):=by kernel_rfl
def VA N a b c d e f g h i (K:KT J):jH N 19 (Fn a b c d e f g h i) lD K =
 bY.Z6 N a b c d e f g h i (λa b j c d e f g h i=>K .nrm (ip a b j c d e f g h i)):=by kernel_rfl
def VB N a f g h i j b c d e (K:KT J):jH N 139 (ip a f g h i j b c d e) lD K =
 bY.Z10 N a f g h i j b c d e (λa f g h i j b c d e=>K .nrm (ip a f g h i j b c d e)) (λa b c d e=>K (.exit 0) (oD a b c d e)):=by kernel_rfl
def VC N a b c d e f g h i j (K:KT J):jH N 1099 (ip a b c d e f g h i j) Fo K =
 bY.Z14 N a b c d e f g h i j (λa b c l d e f g h i j=>K .nrm (ut a b c l d e f g h i j)):=by kernel_rfl
def VD N a b c d e f g h i j l (K:KT J):jH N 2635 (ut a b c d e f g h i j l) Fo K =
 bY.Z16 N a b c d e f g h i j l (λa b c d e f g h i j l=>K .nrm (ut a b c d e f g h i j l)):=by kernel_rfl
def VE N a b c d e f g h i j l (K:KT J):jH N 5707 (ut a b c d e f g h i j l) Fp K =
 bY.Z18 N a b c d e f g h i j l (λa b c d m e f g h i j l=>K .nrm (uu a b c d m e f g h i j l)):=by kernel_rfl
def VF N a b c l m d e f g h i j (K:KT J):jH N 20043 (uu a b c l m d e f g h i j) Fp K =
 bY.Z21 N a b c l m d e f g h i j (λa b c l m d e f g h i j=>K .nrm (uu a b c l m d e f g h i j)) (λa b c d e f g h i j=>K (.exit 2) (ip a b c d e f g h i j)):=by kernel_rfl
def VG N (K:KT J):=qf K (bY.Z20L N (λa b c d e f g h i j=>K (.exit 2) (ip a b c d e f g h i j))) (λa b c l m d e f g h i j k=>bY.Z21 N a b c l m d e f g h i j k (λa b c d e f g h i j=>K (.exit 2) (ip a b c d e f g h i j))) (λF a b c l m d e f g h i j=>VF N a b c l m d e f g h i j _) (by kernel_rfl)
def VH N a b c d e f g h i j l m (K:KT J):=vL (uu a b c d e f g h i j l m) (VG N (jK lD K) N a b c d e f g h i j l m) (by kernel_rfl)
def VI N a b c l m d e f g h i j (K:KT J):=vB 2 lD K (bY.Z19 N a b c l m d e f g h i j (λa b c d e f g h i j=>K .nrm (ip a b c d e f g h i j))) (VH N a b c l m d e f g h i j _) (by kernel_rfl)
def VJ N a b c d e f g h i j l (K:KT J):=vQ (λk=>bY.Z18 N a b c d e f g h i j l k) (VE N a b c d e f g h i j l _) (jo λa b c d m e f g h i j l=>VI N a b c d m e f g h i j l K)
def VK N a b c d e f g h i j l (K:KT J):=vQ (λk=>bY.Z16 N a b c d e f g h i j l k) (VD N a b c d e f g h i j l _) (fT λa b c d e f g h i j l=>VJ N a b c d e f g h i j l K)
def VL N a b c d e f g h i j (K:KT J):=vQ (λk=>bY.Z14 N a b c d e f g h i j k) (VC N a b c d e f g h i j _) (fT λa b c l d e f g h i j=>VK N a b c l d e f g h i j K)
def VM N a b c d e f g h i j (K:KT J):=vB 1 lD K (bY.Z12 N a b c d e f g h i j (λa b c d e f g h i j=>K .nrm (ip a b c d e f g h i j))) (VL N a b c d e f g h i j _) (by kernel_rfl)
def VN N a b c d e f g h i j (K:KT J):jH N 459 (ip a b c d e f g h i j) lD K =
 bY.Z22 N a b c d e f g h i j (λa b c d e f g h i j=>K .nrm (ip a b c d e f g h i j)):=by kernel_rfl
def VO N a b c d e f g h i j (K:KT J):=vQ (λk=>bY.Z12 N a b c d e f g h i j k) (VM N a b c d e f g h i j _) (dN λa b c d e f g h i j=>VN N a b c d e f g h i j K)
def VP N a f g h i j b c d e (K:KT J):=vQ (λk=>bY.Z10 N a f g h i j b c d e k (λa b c d e=>K (.exit 0) (oD a b c d e))) (VB N a f g h i j b c d e _) (dN λa f g h i j b c d e=>VO N a f g h i j b c d e K)
def VQ N (K:KT J):=kU K (bY.Z8L N (λa b c d e=>K (.exit 0) (oD a b c d e))) (λa f g h i j b c d e k=>bY.Z9 N a f g h i j b c d e k (λa b c d e=>K (.exit 0) (oD a b c d e))) (λF a f g h i j b c d e=>VP N a f g h i j b c d e _) (by kernel_rfl)
def VR N a b c d e f g h i j (K:KT J):=vL (ip a b c d e f g h i j) (VQ N (jK zt K) N a b c d e f g h i j) (by kernel_rfl)
def VS N a f g h i j b c d e (K:KT J):=vB 0 zt K (bY.Z7 N a f g h i j b c d e (λa b c d e=>K .nrm (oD a b c d e))) (VR N a f g h i j b c d e _) (by kernel_rfl)
def VT N a b c d e f g h i (K:KT J):=vQ (λk=>bY.Z6 N a b c d e f g h i k) (VA N a b c d e f g h i _) (dN λa b j c d e f g h i=>VS N a b j c d e f g h i K)
def VU N c a b d e (K:KT J):jH N 15 (oD c a b d e) Vr K =
 bY.Z23 N c a b d e (λf a b=>K .ret (Vv f a b)):=by kernel_rfl
def VV N a f g h i b c d e (K:KT J):=vQ (λk=>bY.Z5 N a f g h i b c d e k) (VT N a f g h i b c d e _) (cN λa b c d e=>VU N a b c d e K)
def VW N a b c d e f (K:KT J):=vQ (λk=>bY.Z3 N a b c d e f k) (Vz N a b c d e f _) (dM λg a b c d e f h i=>VV N g a b c d e f h i K)
def VX N b a (K:KT J):=vQ (λk=>bY.Z1 N b a k) (Vy N b a _) (da λa c d e f g=>VW N a c d e f g K)
def VY(h:bY.Spec):aG Try.prog 81 zr :=
 bQ Try.func81 bv Vq (λN X K=>VX N X.1 X.2.1 K) (by kernel_rfl) λX hb hp=>by obtain⟨a,b,_⟩:=X;obtain⟨N,h⟩:=h a b hb.1 hb.2.1 hp;exact⟨N,Eq.trans (by kernel_rfl) (h N (Nat.le_refl N))⟩
def VZ:aG Try.prog 81 zr:=VY bY.ok
def Fq:cV:=⟨94,[(5,.int .u8)],.pair (.int .i64) (.int .i64)⟩
def Fr:List PT:=[⟨.pair (.int .i64) (.pair (.int .i64) (.sl 3 (.int .i64))),true,false⟩]
def V0:List PT:=[⟨.pair (.int .i64) (.pair (.int .i64) (.sl 3 (.int .i64))),true,false⟩]
def zu:d7:=⟨Fq,Fr,true,V0,(some λX=>bN.P X.1.1.1 X.1.2 X.2.1),λX=>((bN.g X.1.1.1 X.1.2 X.2.1).1,((),((bN.g X.1.1.1 X.1.2 X.2.1).2,())))⟩
def Fs:Gm:=addV (addV (aY (aY bk 39 zo) 81 zr) 94 mQ) 111 zp
def V1:au Try.prog Fs:=((((au.nil).add U2 (by kernel_rfl)).add VZ (by kernel_rfl)).addV qT (by kernel_rfl)).addV Vp (by kernel_rfl)
def V2:aa:=⟨[],[],[],[],[]⟩
def V3(u0:Value)(b0:List Int)(r0:Int×Int)(a:MT):St:=dH Fq Fr [u0] (((b0,()),r0),(a,()))
def mV(u0:Value)(a:List Int)(b c d e:Int)(f:LI)(g h:Int):St:=ah [(0,xb 100000),(3,xb 3),(4,xb 4),(100000,xb 100000)] [(100000,(94,[.bor u0 5 (.int .u8) a,yi b,yi c])),(3,(26,[yi d,yi e,.sn 3 tI f none])),(4,(26,[yi g,yi h,.nil]))] []
def uv:aa:=⟨[0,3,4,100000],[100000,3,4],[],[],[]⟩
def Ft(u0:Value)(a:Int)(b:List Int)(c d e f:Int)(g:LI)(h i:Int):St:=ah [(0,xb 100000),(3,xb 3),(4,xb 4),(5,xi a),(100000,xb 100000)] [(100000,(94,[.bor u0 5 (.int .u8) b,yi c,yi d])),(3,(26,[yi e,yi f,.sn 3 tI g none])),(4,(26,[yi h,yi i,.nil]))] []
def V4:aa:=⟨[0,3,4,5,100000],[100000,3,4],[],[],[]⟩
def Fu(u0:Value)(a b:Int)(c:List Int)(d e f g:Int)(h:LI)(i j:Int):St:=ah [(0,xb 100000),(3,xb 3),(4,xb 4),(5,xi a),(6,xi b),(100000,xb 100000)] [(100000,(94,[.bor u0 5 (.int .u8) c,yi d,yi e])),(3,(26,[yi f,yi g,.sn 3 tI h none])),(4,(26,[yi i,yi j,.nil]))] []
def V5:aa:=⟨[0,3,4,5,6,100000],[100000,3,4],[],[],[]⟩
def Fv(u0:Value)(a b:Int)(c:List Int)(d e f g:Int)(h:LI)(i j:Int):St:=ah [(0,xb 100000),(3,xb 3),(4,xb 4),(5,xi a),(6,xi b),(100000,xb 100000)] [(100000,(94,[.bor u0 5 (.int .u8) c,yi d,yi e])),(3,(26,[yi f,yi g,.sn 3 tI h none])),(4,(26,[yi i,yi j,.nil]))] []
def V6:aa:=⟨[0,3,4,5,6,100000],[100000,3,4],[],[(⟨true,3,2⟩,3,.int .i64)],[]⟩
def V7(u0:Value)(a:LI)(b c:Int)(d:List Int)(e f:Int):St:=ah [(4,xb 4),(100000,xb 100000)] [(4,(26,[yi b,yi c,.own 20000258])),(100000,(94,[.bor u0 5 (.int .u8) d,yi e,yi f]))] [(20000258,(⟨3,.int .i64,a,true,false⟩:ac))]
def V8:aa:=⟨[4,100000],[4,100000],[],[],[(⟨true,4,2⟩,20000258)]⟩
def V9:Nat->Option aa:=aA [(0,uv),(1000000,V8)]
abbrev rb{J:Type}(N n:Nat)(V:St)(l:aa)(K:KT J):Option J:=ak Fs bm V9 N (bf 99 (bu Try.f93) n) .n V (ax (some l) K)
def Wa N u0 b0 r0 a (K:KT J):rb N 2 (V3 u0 b0 r0 a) uv K =
 bN.Z1 N b0 r0 a (λb c d e f g h i=>K .nrm (mV u0 b c d e f g h i)):=by kernel_rfl
def Wb N u0 a b c d e f g h (K:KT J):rb N 5 (mV u0 a b c d e f g h) V4 K =
 bN.Z3 N a b c d e f g h (λi a b c d e f g h=>K .nrm (Ft u0 i a b c d e f g h)):=by kernel_rfl
def Wc N u0 a b c d e f g h i (K:KT J):rb N 19 (Ft u0 a b c d e f g h i) V5 K =
 bN.Z6 N a b c d e f g h i (λa j b c d e f g h i=>K .nrm (Fu u0 a j b c d e f g h i)):=by kernel_rfl
def Wd N u0 i j a b c d e f g h (K:KT J):rb N 75 (Fv u0 i j a b c d e f g h) V6 K =
 bN.Z9 N i j a b c d e f g h (λi j a b c d e f g h=>K .nrm (Fv u0 i j a b c d e f g h)) (λa b c d e f g h=>K (.exit 0) (mV u0 a b c d e f g h)):=by kernel_rfl
def We N u0 (K:KT J):=kU K (bN.Z8L N (λa b c d e f g h=>K (.exit 0) (mV u0 a b c d e f g h))) (λi j a b c d e f g h k=>bN.Z9 N i j a b c d e f g h k (λa b c d e f g h=>K (.exit 0) (mV u0 a b c d e f g h))) (λF i j a b c d e f g h=>Wd N u0 i j a b c d e f g h _) (by kernel_rfl)
def Wf N u0 a b c d e f g h i j (K:KT J):=vL (Fu u0 a b c d e f g h i j) (We N u0 (jK uv K) N a b c d e f g h i j) (by kernel_rfl)
def Wg N u0 i j a b c d e f g h (K:KT J):=vB 0 uv K (bN.Z7 N i j a b c d e f g h (λa b c d e f g h=>K .nrm (mV u0 a b c d e f g h))) (Wf N u0 i j a b c d e f g h _) (by kernel_rfl)
def Wh N u0 a b c d e f g h i (K:KT J):=vQ (λk=>bN.Z6 N a b c d e f g h i k) (Wc N u0 a b c d e f g h i _) (dN λa j b c d e f g h i=>Wg N u0 a j b c d e f g h i K)
def Wi N u0 a b c f g h d e (K:KT J):rb N 15 (mV u0 a b c f g h d e) V2 K =
 bN.Z10 N a b c f g h d e (λi d e a b c=>K .ret (V7 u0 i d e a b c)):=by kernel_rfl
def Wj N u0 i a b c d e f g h (K:KT J):=vQ (λk=>bN.Z5 N i a b c d e f g h k) (Wh N u0 i a b c d e f g h _) (ed λa b c d e f g h=>Wi N u0 a b c d e f g h K)
def Wk N u0 a b c d e f g h (K:KT J):=vQ (λk=>bN.Z3 N a b c d e f g h k) (Wb N u0 a b c d e f g h _) (dM λi a b c d e f g h=>Wj N u0 i a b c d e f g h K)
def Wl N u0 b0 r0 a (K:KT J):=vQ (λk=>bN.Z1 N b0 r0 a k) (Wa N u0 b0 r0 a _) (ed λb c d e f g h i=>Wk N u0 b c d e f g h i K)
def Wm(h:bN.Spec):dv Try.prog 93 zu :=
 jZ Try.func93 bv V1 (λN u X K=>Wl N u X.1.1.1 X.1.2 X.2.1 K) (by kernel_rfl) λu0 X hb1 hb2 hp=>by obtain⟨⟨⟨b0,_⟩,r0⟩,a,_⟩:=X;obtain⟨N,h⟩:=h [u0] b0 r0 a hb1.1 hb2.1 hp;exact⟨N,Eq.trans (by kernel_rfl) (h N (Nat.le_refl N))⟩
def Wn:dv Try.prog 93 zu:=Wm bN.ok
def Fx:cV:=⟨94,[(5,.int .u8)],.pair (.int .i64) (.int .i64)⟩
def Fy:List PT:=[⟨.int .i64,false,false⟩]
def Wo:List PT:=[⟨.pair (.int .i64) (.pair (.int .i64) (.sl 3 (.int .i64))),true,false⟩,⟨.str,false,false⟩]
def zw:d7:=⟨Fx,Fy,true,Wo,(some λX=>ck.P X.1.1.1 X.1.2 X.2.1),λX=>((ck.g X.1.1.1 X.1.2 X.2.1).1,((),((ck.g X.1.1.1 X.1.2 X.2.1).2.1,((ck.g X.1.1.1 X.1.2 X.2.1).2.2,()))))⟩
def Fz:Gm:=addV (addV bk 92 yP) 93 zu
def Wp:au Try.prog Fz:=((au.nil).addV Qc (by kernel_rfl)).addV Wn (by kernel_rfl)
def Wq:aa:=⟨[],[],[],[],[]⟩
def Wr(u0:Value)(b0:List Int)(r0:Int×Int)(a:Int):St:=dH Fx Fy [u0] (((b0,()),r0),(a,()))
def Ws(u0:Value)(a:LI)(b:ByteArray)(d e:Int)(f:List Int)(g h:Int):St:=ah [(4,xb 4),(5,.c (.str b)),(100000,xb 100000)] [(4,(26,[yi d,yi e,.own 20000258])),(100000,(94,[.bor u0 5 (.int .u8) f,yi g,yi h]))] [(20000258,(⟨3,.int .i64,a,true,false⟩:ac))]
def Wt:aa:=⟨[4,5,100000],[4,100000],[],[],[(⟨true,4,2⟩,20000258)]⟩
def Wu:Nat->Option aa:=aA [(1000000,Wt)]
abbrev Wv{J:Type}(N n:Nat)(V:St)(l:aa)(K:KT J):Option J:=ak Fz bm Wu N (bf 99 (bu Try.f55) n) .n V (ax (some l) K)
def Ww N u0 b0 r0 a (K:KT J):Wv N 1 (Wr u0 b0 r0 a) Wq K =
 ck.Z0 N b0 r0 a (λb c d e f g h=>K .ret (Ws u0 b c d e f g h)):=by kernel_rfl
def Wx(h:ck.Spec):dv Try.prog 55 zw :=
 jZ Try.func55 bv Wp (λN u X K=>Ww N u X.1.1.1 X.1.2 X.2.1 K) (by kernel_rfl) λu0 X hb1 hb2 hp=>by obtain⟨⟨⟨b0,_⟩,r0⟩,a,_⟩:=X;obtain⟨N,h⟩:=h [u0] b0 r0 a hb1.1 hp;exact⟨N,Eq.trans (by kernel_rfl) (h N (Nat.le_refl N))⟩
def Wy:dv Try.prog 55 zw:=Wx ck.ok
def FA:cV:=⟨94,[(5,.int .u8)],.pair (.int .i64) (.int .i64)⟩
def FB:List PT:=[⟨.int .i64,false,false⟩,⟨.int .i64,false,false⟩]
def Wz:List PT:=[⟨.sl 3 (.int .i64),false,false⟩]
def zx:d7:=⟨FA,FB,true,Wz,(some λX=>cH.P X.1.1.1 X.1.2 X.2.1 X.2.2.1),λX=>((cH.g X.1.1.1 X.1.2 X.2.1 X.2.2.1).1,((),((cH.g X.1.1.1 X.1.2 X.2.1 X.2.2.1).2,())))⟩
def FC:Gm:=addV bk 94 mQ
def WA:au Try.prog FC:=(au.nil).addV qT (by kernel_rfl)
def WB:aa:=⟨[],[],[],[],[]⟩
def WC(u0:Value)(b0:List Int)(r0:Int×Int)(a b:Int):St:=dH FA FB [u0] (((b0,()),r0),(a,(b,())))
def FD(u0:Value)(a b:Int)(c:List Int)(d e:Int):St:=ah [(0,xb 100000),(1,xi a),(2,xi b),(100000,xb 100000)] [(100000,(94,[.bor u0 5 (.int .u8) c,yi d,yi e]))] []
def WD:aa:=⟨[0,1,2,100000],[100000],[],[],[]⟩
def FE(u0:Value)(a:LI)(b c:Int)(d:List Int)(e f:Int):St:=ah [(0,xb 100000),(1,xi b),(2,xi c),(7,xo 1000448),(100000,xb 100000)] [(100000,(94,[.bor u0 5 (.int .u8) d,yi e,yi f]))] [(1000448,(⟨3,.int .i64,a,true,false⟩:ac))]
def WE:aa:=⟨[0,1,2,7,100000],[100000],[],[],[(⟨false,7,0⟩,1000448)]⟩
def FF(u0:Value)(a:LI)(b c:Int)(d:List Int)(e f:Int):St:=ah [(0,xb 100000),(1,xi b),(7,xo 1000448),(8,xi c),(100000,xb 100000)] [(100000,(94,[.bor u0 5 (.int .u8) d,yi e,yi f]))] [(1000448,(⟨3,.int .i64,a,true,false⟩:ac))]
def WF:aa:=⟨[0,1,7,8,100000],[100000],[],[],[(⟨false,7,0⟩,1000448)]⟩
def uw(u0:Value)(a:LI)(b c d:Int)(e:List Int)(f g:Int):St:=ah [(0,xb 100000),(1,xi b),(7,xo 1000448),(8,xi c),(9,xi d),(100000,xb 100000)] [(100000,(94,[.bor u0 5 (.int .u8) e,yi f,yi g]))] [(1000448,(⟨3,.int .i64,a,true,false⟩:ac))]
def FG:aa:=⟨[0,1,7,8,9,100000],[100000],[],[],[(⟨false,7,0⟩,1000448)]⟩
def rc(u0:Value)(a:LI)(b:List Int)(c d:Int):St:=ah [(7,xo 1000448),(100000,xb 100000)] [(100000,(94,[.bor u0 5 (.int .u8) b,yi c,yi d]))] [(1000448,(⟨3,.int .i64,a,true,false⟩:ac))]
def zy:aa:=⟨[7,100000],[100000],[],[],[(⟨false,7,0⟩,1000448)]⟩
def WG(u0:Value)(a:LI)(b:List Int)(c d:Int):St:=ah [(6,xo 1000384),(100000,xb 100000)] [(100000,(94,[.bor u0 5 (.int .u8) b,yi c,yi d]))] [(1000384,(⟨3,.int .i64,a,true,false⟩:ac))]
def WH:aa:=⟨[6,100000],[100000],[],[],[(⟨false,6,0⟩,1000384)]⟩
def WI:Nat->Option aa:=aA [(0,zy),(1000000,WH)]
abbrev oE{J:Type}(N n:Nat)(V:St)(l:aa)(K:KT J):Option J:=ak FC bm WI N (bf 99 (bu Try.f56) n) .n V (ax (some l) K)
def WJ N u0 b0 r0 a b (K:KT J):oE N 2 (WC u0 b0 r0 a b) WD K =
 cH.Z1 N b0 r0 a b (λa b c d e=>K .nrm (FD u0 a b c d e)):=by kernel_rfl
def WK N u0 a b c d e (K:KT J):oE N 5 (FD u0 a b c d e) WE K =
 cH.Z3 N a b c d e (λf a b c d e=>K .nrm (FE u0 f a b c d e)):=by kernel_rfl
def WL N u0 a b f c d e (K:KT J):oE N 11 (FE u0 a b f c d e) WF K =
 cH.Z5 N a b f c d e (λa b g c d e=>K .nrm (FF u0 a b g c d e)):=by kernel_rfl
def WM N u0 a b c d e f (K:KT J):oE N 39 (FF u0 a b c d e f) FG K =
 cH.Z8 N a b c d e f (λa b c g d e f=>K .nrm (uw u0 a b c g d e f)):=by kernel_rfl
def WN N u0 a e f g b c d (K:KT J):oE N 151 (uw u0 a e f g b c d) FG K =
 cH.Z11 N a e f g b c d (λa e f g b c d=>K .nrm (uw u0 a e f g b c d)) (λa b c d=>K (.exit 0) (rc u0 a b c d)):=by kernel_rfl
def WO N u0 (K:KT J):=nT K (cH.Z10L N (λa b c d=>K (.exit 0) (rc u0 a b c d))) (λa e f g b c d k=>cH.Z11 N a e f g b c d k (λa b c d=>K (.exit 0) (rc u0 a b c d))) (λF a e f g b c d=>WN N u0 a e f g b c d _) (by kernel_rfl)
def WP N u0 a b c d e f g (K:KT J):=vL (uw u0 a b c d e f g) (WO N u0 (jK zy K) N a b c d e f g) (by kernel_rfl)
def WQ N u0 a e f g b c d (K:KT J):=vB 0 zy K (cH.Z9 N a e f g b c d (λa b c d=>K .nrm (rc u0 a b c d))) (WP N u0 a e f g b c d _) (by kernel_rfl)
def WR N u0 a b c d e f (K:KT J):=vQ (λk=>cH.Z8 N a b c d e f k) (WM N u0 a b c d e f _) (gV λa b c g d e f=>WQ N u0 a b c g d e f K)
def WS N u0 d a b c (K:KT J):oE N 31 (rc u0 d a b c) WB K =
 cH.Z12 N d a b c (λe a b c=>K .ret (WG u0 e a b c)):=by kernel_rfl
def WT N u0 a e f b c d (K:KT J):=vQ (λk=>cH.Z7 N a e f b c d k) (WR N u0 a e f b c d _) (d9 λa b c d=>WS N u0 a b c d K)
def WU N u0 a b f c d e (K:KT J):=vQ (λk=>cH.Z5 N a b f c d e k) (WL N u0 a b f c d e _) (da λa b g c d e=>WT N u0 a b g c d e K)
def WV N u0 a b c d e (K:KT J):=vQ (λk=>cH.Z3 N a b c d e k) (WK N u0 a b c d e _) (da λf a b c d e=>WU N u0 f a b c d e K)
def WW N u0 b0 r0 a b (K:KT J):=vQ (λk=>cH.Z1 N b0 r0 a b k) (WJ N u0 b0 r0 a b _) (cN λa b c d e=>WV N u0 a b c d e K)
def WX(h:cH.Spec):dv Try.prog 56 zx :=
 jZ Try.func56 bv WA (λN u X K=>WW N u X.1.1.1 X.1.2 X.2.1 X.2.2.1 K) (by kernel_rfl) λu0 X hb1 hb2 hp=>by obtain⟨⟨⟨b0,_⟩,r0⟩,a,b,_⟩:=X;obtain⟨N,h⟩:=h [u0] b0 r0 a b hb1.1 hp;exact⟨N,Eq.trans (by kernel_rfl) (h N (Nat.le_refl N))⟩
def WY:dv Try.prog 56 zx:=WX cH.ok
def FH:bC:=⟨[⟨.sl 5 (.int .u8),false,false⟩],[⟨.pair (.int .i64) (.pair (.int .i64) (.sl 3 (.int .i64))),true,false⟩,⟨.str,false,false⟩,⟨.sl 3 (.int .i64),false,false⟩]⟩
def zz:a8:=⟨FH,none,λX=>((),((fw.g X.1).1,((fw.g X.1).2.1,((fw.g X.1).2.2,()))))⟩
def FI:Gm:=addV (addV (addN bk 54 yI) 55 zw) 56 zx
def WZ:au Try.prog FI:=(((au.nil).addN Ns).addV Wy (by kernel_rfl)).addV WY (by kernel_rfl)
def W0:aa:=⟨[],[],[],[],[]⟩
def W3(a:List Int):St:=bH FH.ps (a,())
def W4(a b:LI)(d:ByteArray)(e f:Int):St:=ah [(2,xb 2),(3,.c (.str d)),(4,xo 1000256)] [(2,(26,[yi e,yi f,.own 20000130]))] [(1000256,(⟨3,.int .i64,a,true,false⟩:ac)),(20000130,(⟨3,.int .i64,b,true,false⟩:ac))]
def W5:aa:=⟨[2,3,4],[2],[],[],[(⟨false,4,0⟩,1000256),(⟨true,2,2⟩,20000130)]⟩
def W6:Nat->Option aa:=aA [(1000000,W5)]
abbrev W7{J:Type}(N n:Nat)(V:St)(l:aa)(K:KT J):Option J:=ak FI bm W6 N (bf 99 (bu Try.f14) n) .n V (ax (some l) K)
def W8 N a (K:KT J):W7 N 1 (W3 a) W0 K =
 fw.Z0 N a (λb c d e f=>K .ret (W4 b c d e f)):=by kernel_rfl
def W9(h:fw.Spec):aG Try.prog 14 zz :=
 bQ Try.func14 bv WZ (λN X K=>W8 N X.1 K) (by kernel_rfl) λX hb hp=>by obtain⟨a,_⟩:=X;obtain⟨N,h⟩:=h a hb.1;exact⟨N,Eq.trans (by kernel_rfl) (h N (Nat.le_refl N))⟩
def Xa:aG Try.prog 14 zz:=W9 fw.ok
def FJ:bC:=⟨[⟨.int .i64,false,false⟩,⟨.int .i64,false,false⟩,⟨.int .i64,false,false⟩],[⟨.bool,false,false⟩]⟩
def oF:a8:=⟨FJ,none,λX=>((),((fy.g X.1 X.2.1 X.2.2.1),()))⟩
def FK:Gm:=bk
def Xb:au Try.prog FK:=au.nil
def Xc:aa:=⟨[],[],[],[],[]⟩
def Xd(a b c:Int):St:=bH FJ.ps (a,(b,(c,())))
def Xe(a:Bool):St:=ah [(6,xB a)] [] []
def Xf:aa:=⟨[6],[],[],[],[]⟩
def Xg:Nat->Option aa:=aA [(1000000,Xf)]
abbrev Xh{J:Type}(N n:Nat)(V:St)(l:aa)(K:KT J):Option J:=ak FK bm Xg N (bf 99 (bu Try.f65) n) .n V (ax (some l) K)
def Xi N a b c (K:KT J):Xh N 1 (Xd a b c) Xc K =
 fy.Z0 N a b c (λd=>K .ret (Xe d)):=by kernel_rfl
def Xj(h:fy.Spec):aG Try.prog 65 oF :=
 bQ Try.func65 bv Xb (λN X K=>Xi N X.1 X.2.1 X.2.2.1 K) (by kernel_rfl) λX hb hp=>by obtain⟨a,b,c,_⟩:=X;obtain⟨N,h⟩:=h a b c;exact⟨N,Eq.trans (by kernel_rfl) (h N (Nat.le_refl N))⟩
def ux:aG Try.prog 65 oF:=Xj fy.ok
def FL:bC:=⟨[⟨.int .i64,false,false⟩],[⟨.bool,false,false⟩]⟩
def zA:a8:=⟨FL,none,λX=>((),((fz.g X.1),()))⟩
def FM:Gm:=aY bk 65 oF
def Xk:au Try.prog FM:=(au.nil).add ux (by kernel_rfl)
def Xl:aa:=⟨[],[],[],[],[]⟩
def Xm(a:Int):St:=bH FL.ps (a,())
def Xn(a:Bool):St:=ah [(2,xB a)] [] []
def Xo:aa:=⟨[2],[],[],[],[]⟩
def Xp:Nat->Option aa:=aA [(1000000,Xo)]
abbrev Xq{J:Type}(N n:Nat)(V:St)(l:aa)(K:KT J):Option J:=ak FM bm Xp N (bf 99 (bu Try.f96) n) .n V (ax (some l) K)
def Xr N a (K:KT J):Xq N 1 (Xm a) Xl K =
 fz.Z0 N a (λb=>K .ret (Xn b)):=by kernel_rfl
def Xs(h:fz.Spec):aG Try.prog 96 zA :=
 bQ Try.func96 bv Xk (λN X K=>Xr N X.1 K) (by kernel_rfl) λX hb hp=>by obtain⟨a,_⟩:=X;obtain⟨N,h⟩:=h a;exact⟨N,Eq.trans (by kernel_rfl) (h N (Nat.le_refl N))⟩
def Xt:aG Try.prog 96 zA:=Xs fz.ok
def FN:bC:=⟨[⟨.sl 3 (.int .i64),false,false⟩,⟨.fnc 96,false,false⟩],[⟨.int .i64,false,false⟩]⟩
def zB:a8:=⟨FN,none,λX=>((),((eB.g X.1 X.2.1),()))⟩
def FO:Gm:=aY bk 96 zA
def Xu:au Try.prog FO:=(au.nil).add Xt (by kernel_rfl)
def Xv:aa:=⟨[],[],[],[],[]⟩
def Xw(a:LI)(b:Unit):St:=bH FN.ps (a,(b,()))
def FP(a:LI):St:=ah [(0,.c (.sn 3 tI a none)),(1,.c (.fn 96 []))] [] []
def Xx:aa:=⟨[0,1],[],[],[],[]⟩
def uy(a:LI)(b d:Int):St:=ah [(0,.c (.sn 3 tI a none)),(1,.c (.fn 96 [])),(7,xi b),(8,xi d)] [] []
def FQ:aa:=⟨[0,1,7,8],[],[],[],[]⟩
def rg :St:=ah [] [] []
def zC:aa:=⟨[],[],[],[],[]⟩
def oG(a:Int):St:=ah [(4,xi a)] [] []
def Xy:aa:=⟨[4],[],[],[],[]⟩
def Xz:Nat->Option aa:=aA [(0,zC),(1000000,Xy)]
abbrev uz{J:Type}(N n:Nat)(V:St)(l:aa)(K:KT J):Option J:=ak FO bm Xz N (bf 99 (bu Try.f113) n) .n V (ax (some l) K)
def XA N a b (K:KT J):uz N 2 (Xw a b) Xx K =
 eB.Z1 N a b (λa=>K .nrm (FP a)):=by kernel_rfl
def XB N a (K:KT J):uz N 9 (FP a) FQ K =
 eB.Z4 N a (λa b c=>K .nrm (uy a b c)):=by kernel_rfl
def XC N a b c (K:KT J):uz N 37 (uy a b c) FQ K =
 eB.Z7 N a b c (λa b c=>K .nrm (uy a b c)) (K (.exit 0) rg) (λd=>K .ret (oG d)):=by kernel_rfl
def XD N (K:KT J):=mA K (eB.Z6L N (K (.exit 0) rg) (λa=>K .ret (oG a))) (λb c d k=>eB.Z7 N b c d k (K (.exit 0) rg) (λa=>K .ret (oG a))) (λF b c d=>XC N b c d _) (by kernel_rfl)
def XE N a b c (K:KT J):=vL (uy a b c) (XD N (jK zC K) N a b c) (by kernel_rfl)
def XF N a b c (K:KT J):=vB 0 zC K (eB.Z5 N a b c (K .nrm rg) (λd=>K .ret (oG d))) (XE N a b c _) (by kernel_rfl)
def XG N a (K:KT J):=vQ (λk=>eB.Z4 N a k) (XB N a _) (fG λa b c=>XF N a b c K)
def XH N  (K:KT J):uz N 7 rg Xv K =
 eB.Z8 N (λa=>K .ret (oG a)):=by kernel_rfl
def XI N a (K:KT J):=vQ (λk=>eB.Z3 N a k (λb=>K .ret (oG b))) (XG N a _) (XH N K)
def XJ N a b (K:KT J):=vQ (λk=>eB.Z1 N a b k) (XA N a b _) (funext λa=>XI N a K)
def XK(h:eB.Spec):aG Try.prog 113 zB :=
 bQ Try.func113 bv Xu (λN X K=>XJ N X.1 X.2.1 K) (by kernel_rfl) λX hb hp=>by obtain⟨a,b,_⟩:=X;obtain⟨N,h⟩:=h a b hb.1;exact⟨N,Eq.trans (by kernel_rfl) (h N (Nat.le_refl N))⟩
def XL:aG Try.prog 113 zB:=XK eB.ok
def FR:bC:=⟨[⟨.sl 3 (.int .i64),false,false⟩,⟨.fnc 96,false,false⟩],[⟨.bool,false,false⟩]⟩
def zD:a8:=⟨FR,none,λX=>((),((kz.g X.1 X.2.1),()))⟩
def FS:Gm:=aY bk 113 zB
def XM:au Try.prog FS:=(au.nil).add XL (by kernel_rfl)
def XN:aa:=⟨[],[],[],[],[]⟩
def XO(a:LI)(b:Unit):St:=bH FR.ps (a,(b,()))
def XP(a:Bool):St:=ah [(4,xB a)] [] []
def XQ:aa:=⟨[4],[],[],[],[]⟩
def XR:Nat->Option aa:=aA [(1000000,XQ)]
abbrev XS{J:Type}(N n:Nat)(V:St)(l:aa)(K:KT J):Option J:=ak FS bm XR N (bf 99 (bu Try.f95) n) .n V (ax (some l) K)
def XT N a b (K:KT J):XS N 1 (XO a b) XN K =
 kz.Z0 N a b (λc=>K .ret (XP c)):=by kernel_rfl
def XU(h:kz.Spec):aG Try.prog 95 zD :=
 bQ Try.func95 bv XM (λN X K=>XT N X.1 X.2.1 K) (by kernel_rfl) λX hb hp=>by obtain⟨a,b,_⟩:=X;obtain⟨N,h⟩:=h a b hb.1;exact⟨N,Eq.trans (by kernel_rfl) (h N (Nat.le_refl N))⟩
def XV:aG Try.prog 95 zD:=XU kz.ok
def FT:bC:=⟨[⟨.pair (.int .i64) (.pair (.int .i64) (.sl 3 (.int .i64))),true,false⟩],[⟨.bool,false,false⟩]⟩
def uA:a8:=⟨FT,none,λX=>((),((jg.g X.1),()))⟩
def FU:Gm:=aY (aY bk 65 oF) 95 zD
def XW:au Try.prog FU:=((au.nil).add ux (by kernel_rfl)).add XV (by kernel_rfl)
def XX:aa:=⟨[],[],[],[],[]⟩
def XY(a:MT):St:=bH FT.ps (a,())
def XZ(a:Bool):St:=ah [(2,xB a)] [] []
def X0:aa:=⟨[2],[],[],[],[]⟩
def X1:Nat->Option aa:=aA [(1000000,X0)]
abbrev X2{J:Type}(N n:Nat)(V:St)(l:aa)(K:KT J):Option J:=ak FU bm X1 N (bf 99 (bu Try.f63) n) .n V (ax (some l) K)
def X3 N a (K:KT J):X2 N 1 (XY a) XX K =
 jg.Z0 N a (λb=>K .ret (XZ b)):=by kernel_rfl
def X4(h:jg.Spec):aG Try.prog 63 uA :=
 bQ Try.func63 bv XW (λN X K=>X3 N X.1 K) (by kernel_rfl) λX hb hp=>by obtain⟨a,_⟩:=X;obtain⟨N,h⟩:=h a hb.1;exact⟨N,Eq.trans (by kernel_rfl) (h N (Nat.le_refl N))⟩
def FV:aG Try.prog 63 uA:=X4 jg.ok
def FW:bC:=⟨[⟨.pair (.int .i64) (.pair (.int .i64) (.sl 3 (.int .i64))),true,false⟩,⟨.int .i64,false,false⟩,⟨.int .i64,false,false⟩],[⟨.int .i64,false,false⟩]⟩
def mW:a8:=⟨FW,(some λX=>bz.P X.1 X.2.1 X.2.2.1),λX=>((),((bz.g X.1 X.2.1 X.2.2.1),()))⟩
def FX:Gm:=bk
def X5:au Try.prog FX:=au.nil
def X6:aa:=⟨[],[],[],[],[]⟩
def X7(a:MT)(b c:Int):St:=bH FW.ps (a,(b,(c,())))
def X8(a:Int):St:=ah [(6,xi a)] [] []
def X9:aa:=⟨[6],[],[],[],[]⟩
def Ya:Nat->Option aa:=aA [(1000000,X9)]
abbrev Yb{J:Type}(N n:Nat)(V:St)(l:aa)(K:KT J):Option J:=ak FX bm Ya N (bf 99 (bu Try.f60) n) .n V (ax (some l) K)
def Yc N a b c (K:KT J):Yb N 1 (X7 a b c) X6 K =
 bz.Z0 N a b c (λd=>K .ret (X8 d)):=by kernel_rfl
def Yd(h:bz.Spec):aG Try.prog 60 mW :=
 bQ Try.func60 bv X5 (λN X K=>Yc N X.1 X.2.1 X.2.2.1 K) (by kernel_rfl) λX hb hp=>by obtain⟨a,b,c,_⟩:=X;obtain⟨N,h⟩:=h a b c hb.1 hp;exact⟨N,Eq.trans (by kernel_rfl) (h N (Nat.le_refl N))⟩
def rj:aG Try.prog 60 mW:=Yd bz.ok
def FY:bC:=⟨[⟨.int .i64,false,false⟩,⟨.int .i64,false,false⟩],[⟨.int .i64,false,false⟩]⟩
def zE:a8:=⟨FY,(some λX=>cI.P X.1 X.2.1),λX=>((),((cI.g X.1 X.2.1),()))⟩
def FZ:Gm:=bk
def Ye:au Try.prog FZ:=au.nil
def Yf:aa:=⟨[],[],[],[],[]⟩
def Yg(a b:Int):St:=bH FY.ps (a,(b,()))
def uB(a b:Int):St:=ah [(0,xi a),(1,xi b)] [] []
def F0:aa:=⟨[0,1],[],[],[],[]⟩
def rp(a:Int):St:=ah [(0,xi a)] [] []
def zF:aa:=⟨[0],[],[],[],[]⟩
def Yh(a:Int):St:=ah [(4,xi a)] [] []
def Yi:aa:=⟨[4],[],[],[],[]⟩
def Yj:Nat->Option aa:=aA [(0,zF),(1000000,Yi)]
abbrev zG{J:Type}(N n:Nat)(V:St)(l:aa)(K:KT J):Option J:=ak FZ bm Yj N (bf 99 (bu Try.f97) n) .n V (ax (some l) K)
def Yk N a b (K:KT J):zG N 2 (Yg a b) F0 K =
 cI.Z1 N a b (λa b=>K .nrm (uB a b)):=by kernel_rfl
def Yl N a b (K:KT J):zG N 17 (uB a b) F0 K =
 cI.Z5 N a b (λa b=>K .nrm (uB a b)) (λa=>K (.exit 0) (rp a)):=by kernel_rfl
def Ym N (K:KT J):=xu K (cI.Z4L N (λa=>K (.exit 0) (rp a))) (λa b k=>cI.Z5 N a b k (λa=>K (.exit 0) (rp a))) (λF a b=>Yl N a b _) (by kernel_rfl)
def Yn N a b (K:KT J):=vL (uB a b) (Ym N (jK zF K) N a b) (by kernel_rfl)
def Yo N a b (K:KT J):=vB 0 zF K (cI.Z3 N a b (λa=>K .nrm (rp a))) (Yn N a b _) (by kernel_rfl)
def Yp N a (K:KT J):zG N 7 (rp a) Yf K =
 cI.Z6 N a (λb=>K .ret (Yh b)):=by kernel_rfl
def Yq N a b (K:KT J):=vQ (λk=>cI.Z3 N a b k) (Yo N a b _) (funext λa=>Yp N a K)
def Yr N a b (K:KT J):=vQ (λk=>cI.Z1 N a b k) (Yk N a b _) (gz λa b=>Yq N a b K)
def Ys(h:cI.Spec):aG Try.prog 97 zE :=
 bQ Try.func97 bv Ye (λN X K=>Yr N X.1 X.2.1 K) (by kernel_rfl) λX hb hp=>by obtain⟨a,b,_⟩:=X;obtain⟨N,h⟩:=h a b hp;exact⟨N,Eq.trans (by kernel_rfl) (h N (Nat.le_refl N))⟩
def Yt:aG Try.prog 97 zE:=Ys cI.ok
def F1:bC:=⟨[⟨.pair (.int .i64) (.pair (.int .i64) (.sl 3 (.int .i64))),true,false⟩],[⟨.sl 3 (.int .i64),false,true⟩]⟩
def uC:a8:=⟨F1,(some λX=>aH.P X.1),λX=>((),((aH.g X.1),()))⟩
def F2:Gm:=aY (aY bk 60 mW) 97 zE
def Yu:au Try.prog F2:=((au.nil).add rj (by kernel_rfl)).add Yt (by kernel_rfl)
def Yv:aa:=⟨[],[],[],[],[]⟩
def Yw(a:MT):St:=bH F1.ps (a,())
def F3(a b:Int)(c:LI):St:=ah [(1,xb 1)] [(1,(26,[yi a,yi b,.sn 3 tI c none]))] []
def Yx:aa:=⟨[1],[1],[],[],[]⟩
def F4(a b:LI)(c d:Int)(e:LI):St:=ah [(1,xb 1),(3,xo 1000192),(4,xo 1000256)] [(1,(26,[yi c,yi d,.sn 3 tI e none]))] [(1000192,(⟨3,.int .i64,a,true,false⟩:ac)),(1000256,(⟨3,.int .i64,b,true,false⟩:ac))]
def Yy:aa:=⟨[1,3,4],[1],[],[],[(⟨false,3,0⟩,1000192),(⟨false,4,0⟩,1000256)]⟩
def F5(a b c:LI)(d e:Int)(f:LI):St:=ah [(1,xb 1),(3,xo 1000192),(4,xo 1000256),(5,xo 1000320)] [(1,(26,[yi d,yi e,.sn 3 tI f none]))] [(1000192,(⟨3,.int .i64,a,true,false⟩:ac)),(1000256,(⟨3,.int .i64,b,true,false⟩:ac)),(1000320,(⟨3,.int .i64,c,true,false⟩:ac))]
def Yz:aa:=⟨[1,3,4,5],[1],[],[],[(⟨false,3,0⟩,1000192),(⟨false,4,0⟩,1000256),(⟨false,5,0⟩,1000320)]⟩
def f6(a b c:LI)(d e f g:Int)(h:LI):St:=ah [(1,xb 1),(3,xo 1000192),(4,xo 1000256),(5,xo 1000320),(34,xi d),(35,xi e)] [(1,(26,[yi f,yi g,.sn 3 tI h none]))] [(1000192,(⟨3,.int .i64,a,true,false⟩:ac)),(1000256,(⟨3,.int .i64,b,true,false⟩:ac)),(1000320,(⟨3,.int .i64,c,true,false⟩:ac))]
def lE:aa:=⟨[1,3,4,5,34,35],[1],[],[],[(⟨false,3,0⟩,1000192),(⟨false,4,0⟩,1000256),(⟨false,5,0⟩,1000320)]⟩
def F6(a b c:LI)(d e:Int)(f:Bool)(g h:Int)(i:LI):St:=ah [(1,xb 1),(3,xo 1000192),(4,xo 1000256),(5,xo 1000320),(34,xi d),(35,xi e),(36,xB f)] [(1,(26,[yi g,yi h,.sn 3 tI i none]))] [(1000192,(⟨3,.int .i64,a,true,false⟩:ac)),(1000256,(⟨3,.int .i64,b,true,false⟩:ac)),(1000320,(⟨3,.int .i64,c,true,false⟩:ac))]
def YA:aa:=⟨[1,3,4,5,34,35,36],[1],[],[],[(⟨false,3,0⟩,1000192),(⟨false,4,0⟩,1000256),(⟨false,5,0⟩,1000320)]⟩
def oH(a b c:LI)(d e f g h:Int)(i:LI):St:=ah [(1,xb 1),(3,xo 1000192),(4,xo 1000256),(5,xo 1000320),(6,xi d),(34,xi e),(35,xi f)] [(1,(26,[yi g,yi h,.sn 3 tI i none]))] [(1000192,(⟨3,.int .i64,a,true,false⟩:ac)),(1000256,(⟨3,.int .i64,b,true,false⟩:ac)),(1000320,(⟨3,.int .i64,c,true,false⟩:ac))]
def zH:aa:=⟨[1,3,4,5,6,34,35],[1],[],[],[(⟨false,3,0⟩,1000192),(⟨false,4,0⟩,1000256),(⟨false,5,0⟩,1000320)]⟩
def lF(a b c d:LI)(e f g h:Int)(i:LI):St:=ah [(1,xb 1),(3,xo 1000192),(4,xo 1000256),(5,xo 1000320),(7,xo 1000448),(34,xi e),(35,xi f)] [(1,(26,[yi g,yi h,.sn 3 tI i none]))] [(1000192,(⟨3,.int .i64,a,true,false⟩:ac)),(1000256,(⟨3,.int .i64,b,true,false⟩:ac)),(1000320,(⟨3,.int .i64,c,true,false⟩:ac)),(1000448,(⟨3,.int .i64,d,true,false⟩:ac))]
def uD:aa:=⟨[1,3,4,5,7,34,35],[1],[],[],[(⟨false,3,0⟩,1000192),(⟨false,4,0⟩,1000256),(⟨false,5,0⟩,1000320),(⟨false,7,0⟩,1000448)]⟩
def gI(a b c d:LI)(e f g h i:Int)(j:LI):St:=ah [(1,xb 1),(3,xo 1000192),(4,xo 1000256),(5,xo 1000320),(7,xo 1000448),(8,xi e),(34,xi f),(35,xi g)] [(1,(26,[yi h,yi i,.sn 3 tI j none]))] [(1000192,(⟨3,.int .i64,a,true,false⟩:ac)),(1000256,(⟨3,.int .i64,b,true,false⟩:ac)),(1000320,(⟨3,.int .i64,c,true,false⟩:ac)),(1000448,(⟨3,.int .i64,d,true,false⟩:ac))]
def lG:aa:=⟨[1,3,4,5,7,8,34,35],[1],[],[],[(⟨false,3,0⟩,1000192),(⟨false,4,0⟩,1000256),(⟨false,5,0⟩,1000320),(⟨false,7,0⟩,1000448)]⟩
def F7(a b c d:LI)(e f g h i j:Int)(l:LI):St:=ah [(1,xb 1),(3,xo 1000192),(4,xo 1000256),(5,xo 1000320),(7,xo 1000448),(8,xi e),(9,xi f),(34,xi g),(35,xi h)] [(1,(26,[yi i,yi j,.sn 3 tI l none]))] [(1000192,(⟨3,.int .i64,a,true,false⟩:ac)),(1000256,(⟨3,.int .i64,b,true,false⟩:ac)),(1000320,(⟨3,.int .i64,c,true,false⟩:ac)),(1000448,(⟨3,.int .i64,d,true,false⟩:ac))]
def YB:aa:=⟨[1,3,4,5,7,8,9,34,35],[1],[],[],[(⟨false,3,0⟩,1000192),(⟨false,4,0⟩,1000256),(⟨false,5,0⟩,1000320),(⟨false,7,0⟩,1000448)]⟩
def jf(a b c d:LI)(e f g h i j l m:Int)(o:LI):St:=ah [(1,xb 1),(3,xo 1000192),(4,xo 1000256),(5,xo 1000320),(7,xo 1000448),(8,xi e),(9,xi f),(34,xi g),(35,xi h),(62,xi i),(63,xi j)] [(1,(26,[yi l,yi m,.sn 3 tI o none]))] [(1000192,(⟨3,.int .i64,a,true,false⟩:ac)),(1000256,(⟨3,.int .i64,b,true,false⟩:ac)),(1000320,(⟨3,.int .i64,c,true,false⟩:ac)),(1000448,(⟨3,.int .i64,d,true,false⟩:ac))]
def oI:aa:=⟨[1,3,4,5,7,8,9,34,35,62,63],[1],[],[],[(⟨false,3,0⟩,1000192),(⟨false,4,0⟩,1000256),(⟨false,5,0⟩,1000320),(⟨false,7,0⟩,1000448)]⟩
def F8(a b c d:LI)(e f g h i j:Int)(l:Bool)(m o:Int)(p:LI):St:=ah [(1,xb 1),(3,xo 1000192),(4,xo 1000256),(5,xo 1000320),(7,xo 1000448),(8,xi e),(9,xi f),(34,xi g),(35,xi h),(62,xi i),(63,xi j),(64,xB l)] [(1,(26,[yi m,yi o,.sn 3 tI p none]))] [(1000192,(⟨3,.int .i64,a,true,false⟩:ac)),(1000256,(⟨3,.int .i64,b,true,false⟩:ac)),(1000320,(⟨3,.int .i64,c,true,false⟩:ac)),(1000448,(⟨3,.int .i64,d,true,false⟩:ac))]
def YC:aa:=⟨[1,3,4,5,7,8,9,34,35,62,63,64],[1],[],[],[(⟨false,3,0⟩,1000192),(⟨false,4,0⟩,1000256),(⟨false,5,0⟩,1000320),(⟨false,7,0⟩,1000448)]⟩
def F9(a b c d:LI)(e f g h i j l m o:Int)(p:LI):St:=ah [(1,xb 1),(3,xo 1000192),(4,xo 1000256),(5,xo 1000320),(7,xo 1000448),(8,xi e),(9,xi f),(10,xi g),(34,xi h),(35,xi i),(62,xi j),(63,xi l)] [(1,(26,[yi m,yi o,.sn 3 tI p none]))] [(1000192,(⟨3,.int .i64,a,true,false⟩:ac)),(1000256,(⟨3,.int .i64,b,true,false⟩:ac)),(1000320,(⟨3,.int .i64,c,true,false⟩:ac)),(1000448,(⟨3,.int .i64,d,true,false⟩:ac))]
def YD:aa:=⟨[1,3,4,5,7,8,9,10,34,35,62,63],[1],[],[],[(⟨false,3,0⟩,1000192),(⟨false,4,0⟩,1000256),(⟨false,5,0⟩,1000320),(⟨false,7,0⟩,1000448)]⟩
def uE(a b c d:LI)(e f g h i j l m o p q:Int)(r:LI):St:=ah [(1,xb 1),(3,xo 1000192),(4,xo 1000256),(5,xo 1000320),(7,xo 1000448),(8,xi e),(9,xi f),(10,xi g),(11,xi h),(12,xi i),(34,xi j),(35,xi l),(62,xi m),(63,xi o)] [(1,(26,[yi p,yi q,.sn 3 tI r none]))] [(1000192,(⟨3,.int .i64,a,true,false⟩:ac)),(1000256,(⟨3,.int .i64,b,true,false⟩:ac)),(1000320,(⟨3,.int .i64,c,true,false⟩:ac)),(1000448,(⟨3,.int .i64,d,true,false⟩:ac))]
def Ga:aa:=⟨[1,3,4,5,7,8,9,10,11,12,34,35,62,63],[1],[],[],[(⟨false,3,0⟩,1000192),(⟨false,4,0⟩,1000256),(⟨false,5,0⟩,1000320),(⟨false,7,0⟩,1000448)]⟩
def mX(a b c d:LI)(e f g h i:Int)(j:LI):St:=ah [(1,xb 1),(3,xo 1000192),(4,xo 1000256),(5,xo 1000320),(7,xo 1000448),(16,xi e),(34,xi f),(35,xi g)] [(1,(26,[yi h,yi i,.sn 3 tI j none]))] [(1000192,(⟨3,.int .i64,a,true,false⟩:ac)),(1000256,(⟨3,.int .i64,b,true,false⟩:ac)),(1000320,(⟨3,.int .i64,c,true,false⟩:ac)),(1000448,(⟨3,.int .i64,d,true,false⟩:ac))]
def uF:aa:=⟨[1,3,4,5,7,16,34,35],[1],[],[],[(⟨false,3,0⟩,1000192),(⟨false,4,0⟩,1000256),(⟨false,5,0⟩,1000320),(⟨false,7,0⟩,1000448)]⟩
def uG(a b c d:LI)(e f g h i j l:Int)(m:LI):St:=ah [(1,xb 1),(3,xo 1000192),(4,xo 1000256),(5,xo 1000320),(7,xo 1000448),(16,xi e),(34,xi f),(35,xi g),(158,xo 1000448),(159,xi h),(160,xi i)] [(1,(26,[yi j,yi l,.sn 3 tI m none]))] [(1000192,(⟨3,.int .i64,a,true,false⟩:ac)),(1000256,(⟨3,.int .i64,b,true,false⟩:ac)),(1000320,(⟨3,.int .i64,c,true,false⟩:ac)),(1000448,(⟨3,.int .i64,d,true,false⟩:ac))]
def Gb:aa:=⟨[1,3,4,5,7,16,34,35,158,159,160],[1],[],[],[(⟨false,3,0⟩,1000192),(⟨false,4,0⟩,1000256),(⟨false,5,0⟩,1000320),(⟨false,7,0⟩,1000448)]⟩
def Gc(a b c d:LI)(e f g h i j:Int)(l:LI):St:=ah [(1,xb 1),(3,xo 1000192),(4,xo 1000256),(5,xo 1000320),(7,xo 1000448),(16,xi e),(19,xi f),(34,xi g),(35,xi h)] [(1,(26,[yi i,yi j,.sn 3 tI l none]))] [(1000192,(⟨3,.int .i64,a,true,false⟩:ac)),(1000256,(⟨3,.int .i64,b,true,false⟩:ac)),(1000320,(⟨3,.int .i64,c,true,false⟩:ac)),(1000448,(⟨3,.int .i64,d,true,false⟩:ac))]
def YE:aa:=⟨[1,3,4,5,7,16,19,34,35],[1],[],[],[(⟨false,3,0⟩,1000192),(⟨false,4,0⟩,1000256),(⟨false,5,0⟩,1000320),(⟨false,7,0⟩,1000448)]⟩
def uH(a b c d:LI)(e f g h i j l m:Int)(o:LI):St:=ah [(1,xb 1),(3,xo 1000192),(4,xo 1000256),(5,xo 1000320),(7,xo 1000448),(16,xi e),(19,xi f),(34,xi g),(35,xi h),(178,xo 1000448),(179,xi i),(180,xi j)] [(1,(26,[yi l,yi m,.sn 3 tI o none]))] [(1000192,(⟨3,.int .i64,a,true,false⟩:ac)),(1000256,(⟨3,.int .i64,b,true,false⟩:ac)),(1000320,(⟨3,.int .i64,c,true,false⟩:ac)),(1000448,(⟨3,.int .i64,d,true,false⟩:ac))]
def Gd:aa:=⟨[1,3,4,5,7,16,19,34,35,178,179,180],[1],[],[],[(⟨false,3,0⟩,1000192),(⟨false,4,0⟩,1000256),(⟨false,5,0⟩,1000320),(⟨false,7,0⟩,1000448)]⟩
def rq(a b c d:LI)(e f g h i:Int)(j:LI):St:=ah [(1,xb 1),(3,xo 1000192),(4,xo 1000256),(5,xo 1000320),(7,xo 1000448),(19,xi e),(34,xi f),(35,xi g)] [(1,(26,[yi h,yi i,.sn 3 tI j none]))] [(1000192,(⟨3,.int .i64,a,true,false⟩:ac)),(1000256,(⟨3,.int .i64,b,true,false⟩:ac)),(1000320,(⟨3,.int .i64,c,true,false⟩:ac)),(1000448,(⟨3,.int .i64,d,true,false⟩:ac))]
def zI:aa:=⟨[1,3,4,5,7,19,34,35],[1],[],[],[(⟨false,3,0⟩,1000192),(⟨false,4,0⟩,1000256),(⟨false,5,0⟩,1000320),(⟨false,7,0⟩,1000448)]⟩
def uI(a b c d:LI)(e f g h i j l:Int)(m:LI):St:=ah [(1,xb 1),(3,xo 1000192),(4,xo 1000256),(5,xo 1000320),(19,xi e),(34,xi f),(35,xi g),(205,xo 1013120),(206,xi h),(207,xi i)] [(1,(26,[yi j,yi l,.sn 3 tI m none]))] [(1000192,(⟨3,.int .i64,a,true,false⟩:ac)),(1000256,(⟨3,.int .i64,b,true,false⟩:ac)),(1000320,(⟨3,.int .i64,c,true,false⟩:ac)),(1013120,(⟨3,.int .i64,d,true,false⟩:ac))]
def Ge:aa:=⟨[1,3,4,5,19,34,35,205,206,207],[1],[],[],[(⟨false,3,0⟩,1000192),(⟨false,4,0⟩,1000256),(⟨false,5,0⟩,1000320),(⟨false,205,0⟩,1013120)]⟩
def oJ(a:LI):St:=ah [(5,xo 1000320)] [] [(1000320,(⟨3,.int .i64,a,true,false⟩:ac))]
def zK:aa:=⟨[5],[],[],[],[(⟨false,5,0⟩,1000320)]⟩
def eo(a:LI):St:=ah [(2,xo 1001000128)] [] [(1001000128,(⟨3,.int .i64,a,true,true⟩:ac))]
def YF:aa:=⟨[2],[],[⟨⟨false,2,0⟩,30000000,3,.int .i64,true⟩],[],[(⟨false,2,0⟩,1001000128)]⟩
def YG:Nat->Option aa:=aA [(5,oI),(4,lG),(3,lG),(2,uD),(6,uF),(8,zI),(10,lE),(1,lE),(0,zK),(1000000,YF)]
abbrev cG{J:Type}(N n:Nat)(V:St)(l:aa)(K:KT J):Option J:=ak F2 bm YG N (bf 99 (bu Try.f64) n) .n V (ax (some l) K)
def YH N a (K:KT J):cG N 2 (Yw a) Yx K =
 aH.Z1 N a (λb c d=>K .nrm (F3 b c d)):=by kernel_rfl
def YI N a b c (K:KT J):cG N 5 (F3 a b c) Yy K =
 aH.Z3 N a b c (λd e a b c=>K .nrm (F4 d e a b c)):=by kernel_rfl
def YJ N a b c d e (K:KT J):cG N 11 (F4 a b c d e) Yz K =
 aH.Z5 N a b c d e (λa b f c d e=>K .nrm (F5 a b f c d e)):=by kernel_rfl
def YK N a b c d e f (K:KT J):cG N 39 (F5 a b c d e f) lE K =
 aH.Z8 N a b c d e f (λa b c g h d e f=>K .nrm (f6 a b c g h d e f)):=by kernel_rfl
def YL N a b c d e f g h (K:KT J):cG N 279 (f6 a b c d e f g h) YA K =
 aH.Z12 N a b c d e f g h (λa b c d e i f g h=>K .nrm (F6 a b c d e i f g h)):=by kernel_rfl
def YM N b c a d e i f g h (K:KT J):cG N 663 (F6 b c a d e i f g h) lE K =
 aH.Z14 N b c a d e i f g h (λb c a d e f g h=>K .nrm (f6 b c a d e f g h)) (λa=>K (.exit 0) (oJ a)):=by kernel_rfl
def YN N a b c d e f g h (K:KT J):cG N 4503 (f6 a b c d e f g h) zH K =
 aH.Z18 N a b c d e f g h (λa b c i d e f g h=>K .nrm (oH a b c i d e f g h)):=by kernel_rfl
def YO N a b c i d e f g h (K:KT J):cG N 10647 (oH a b c i d e f g h) zH K =
 aH.Z20 N a b c i d e f g h (λa b c i d e f g h=>K .nrm (oH a b c i d e f g h)) (λa b c d e f g h=>K (.exit 1) (f6 a b c d e f g h)):=by kernel_rfl
def YP N a b c d e f g h i (K:KT J):cG N 22935 (oH a b c d e f g h i) zH K =
 aH.Z22 N a b c d e f g h i (λa b c d e f g h i=>K .nrm (oH a b c d e f g h i)):=by kernel_rfl
def YQ N a b c i d e f g h (K:KT J):cG N 47511 (oH a b c i d e f g h) uD K =
 aH.Z24 N a b c i d e f g h (λa b c j d e f g h=>K .nrm (lF a b c j d e f g h)):=by kernel_rfl
def YR N a b c d e f g h i (K:KT J):cG N 162199 (lF a b c d e f g h i) lG K =
 aH.Z27 N a b c d e f g h i (λa b c d j e f g h i=>K .nrm (gI a b c d j e f g h i)):=by kernel_rfl
def YS N a b c d j e f g h i (K:KT J):cG N 1145239 (gI a b c d j e f g h i) lG K =
 aH.Z31 N a b c d j e f g h i (λa b c d j e f g h i=>K .nrm (gI a b c d j e f g h i)) (λa b c d e f g h i=>K (.exit 2) (lF a b c d e f g h i)):=by kernel_rfl
def YT N a b c d e f g h i j (K:KT J):cG N 9009559 (gI a b c d e f g h i j) YB K =
 aH.Z35 N a b c d e f g h i j (λa b c d e l f g h i j=>K .nrm (F7 a b c d e l f g h i j)):=by kernel_rfl
def YU N a b c d e f g h i j l (K:KT J):cG N 21592471 (F7 a b c d e f g h i j l) oI K =
 aH.Z37 N a b c d e f g h i j l (λa b c d e f g h m o i j l=>K .nrm (jf a b c d e f g h m o i j l)):=by kernel_rfl
def YV N a b c d e f g h i j l m o (K:KT J):cG N 147421591 (jf a b c d e f g h i j l m o) YC K =
 aH.Z41 N a b c d e f g h i j l m o (λa b c d e f g h i j p l m o=>K .nrm (F8 a b c d e f g h i j p l m o)):=by kernel_rfl
def YW N a b c d e l f g m o p h i j (K:KT J):cG N 348748183 (F8 a b c d e l f g m o p h i j) oI K =
 aH.Z43 N a b c d e l f g m o p h i j (λa b c d e l f g m o h i j=>K .nrm (jf a b c d e l f g m o h i j)) (λa b c d e f g h i j=>K (.exit 4) (gI a b c d e f g h i j)):=by kernel_rfl
def YX N a b c d e f g h i j l m o (K:KT J):cG N 2362014103 (jf a b c d e f g h i j l m o) YD K =
 aH.Z47 N a b c d e f g h i j l m o (λa b c d e f p g h i j l m o=>K .nrm (F9 a b c d e f p g h i j l m o)):=by kernel_rfl
def YY N a b c d e f g h i j l m o p (K:KT J):cG N 5583239575 (F9 a b c d e f g h i j l m o p) Ga K =
 aH.Z49 N a b c d e f g h i j l m o p (λa b c d e f g q r h i j l m o p=>K .nrm (uE a b c d e f g q r h i j l m o p)):=by kernel_rfl
def YZ N a b c d e f p q r g h i j l m o (K:KT J):cG N 12025690519 (uE a b c d e f p q r g h i j l m o) Ga K =
 aH.Z51 N a b c d e f p q r g h i j l m o (λa b c d e f p q r g h i j l m o=>K .nrm (uE a b c d e f p q r g h i j l m o)) (λa b c d e f g h i j l m o=>K (.exit 5) (jf a b c d e f g h i j l m o)):=by kernel_rfl
def Y0 N a b c d e f p q r g h i j l m o (K:KT J):cG N 16320657815 (uE a b c d e f p q r g h i j l m o) oI K =
 aH.Z52 N a b c d e f p q r g h i j l m o (λa b c d e f g h i j l m o=>K .nrm (jf a b c d e f g h i j l m o)) (λs=>K .ret (eo s)):=by kernel_rfl
def Y1 N a b c d e f p q r g h i j l m o (K:KT J):=vQ (λk=>aH.Z51 N a b c d e f p q r g h i j l m o k (λa b c d e f g h i j l m o=>K (.exit 5) (jf a b c d e f g h i j l m o))) (YZ N a b c d e f p q r g h i j l m o _) (nS λa b c d e f p q r g h i j l m o=>Y0 N a b c d e f p q r g h i j l m o K)
def Y2 N a b c d e f g h i j l m o p (K:KT J):=vQ (λk=>aH.Z49 N a b c d e f g h i j l m o p k) (YY N a b c d e f g h i j l m o p _) (nS λa b c d e f g q r h i j l m o p=>Y1 N a b c d e f g q r h i j l m o p K)
def Y3 N a b c d e f g h i j l m o (K:KT J):=vQ (λk=>aH.Z47 N a b c d e f g h i j l m o k) (YX N a b c d e f g h i j l m o _) (nR λa b c d e f p g h i j l m o=>Y2 N a b c d e f p g h i j l m o K)
def Y4 N a b c d e f g h i j l m o (K:KT J):=vB 5 oI K (aH.Z45 N a b c d e f g h i j l m o (λa b c d e f g h i j l m o=>K .nrm (jf a b c d e f g h i j l m o)) (λp=>K .ret (eo p))) (Y3 N a b c d e f g h i j l m o _) (by kernel_rfl)
def Y5 N a b c d e f g h i j l m o (K:KT J):cG N 1019836823 (jf a b c d e f g h i j l m o) oI K =
 aH.Z53 N a b c d e f g h i j l m o (λa b c d e f g h i j l m o=>K .nrm (jf a b c d e f g h i j l m o)):=by kernel_rfl
def Y6 N a b c d e f g h i j l m o (K:KT J):=vQ (λk=>aH.Z45 N a b c d e f g h i j l m o k (λp=>K .ret (eo p))) (Y4 N a b c d e f g h i j l m o _) (iG λa b c d e f g h i j l m o=>Y5 N a b c d e f g h i j l m o K)
def Y7 N a b c d e l f g m o p h i j (K:KT J):=vQ (λk=>aH.Z43 N a b c d e l f g m o p h i j k (λa b c d e f g h i j=>K (.exit 4) (gI a b c d e f g h i j))) (YW N a b c d e l f g m o p h i j _) (iG λa b c d e l f g m o h i j=>Y6 N a b c d e l f g m o h i j K)
def Y8 N a b c d e f g h i j l m o (K:KT J):=vQ (λk=>aH.Z41 N a b c d e f g h i j l m o k) (YV N a b c d e f g h i j l m o _) (nR λa b c d e f g h i j p l m o=>Y7 N a b c d e f g h i j p l m o K)
def Y9 N (K:KT J):=s9 K (aH.Z39L N (λa b c d e f g h i j=>K (.exit 4) (gI a b c d e f g h i j)) (λl=>K .ret (eo l))) (λa b c d e m f g o p h i j k=>aH.Z40 N a b c d e m f g o p h i j k (λa b c d e f g h i j=>K (.exit 4) (gI a b c d e f g h i j)) (λl=>K .ret (eo l))) (λF a b c d e m f g o p h i j=>Y8 N a b c d e m f g o p h i j _) (by kernel_rfl)
def Za N a b c d e f g h i j l m o (K:KT J):=vL (jf a b c d e f g h i j l m o) (Y9 N (jK lG K) N a b c d e f g h i j l m o) (by kernel_rfl)
def Zb N a b c d e l f g m o h i j (K:KT J):=vB 4 lG K (aH.Z38 N a b c d e l f g m o h i j (λa b c d e f g h i j=>K .nrm (gI a b c d e f g h i j)) (λp=>K .ret (eo p))) (Za N a b c d e l f g m o h i j _) (by kernel_rfl)
def Zc N a b c d e f g h i j l (K:KT J):=vQ (λk=>aH.Z37 N a b c d e f g h i j l k) (YU N a b c d e f g h i j l _) (iG λa b c d e f g h m o i j l=>Zb N a b c d e f g h m o i j l K)
def Zd N a b c d e f g h i j (K:KT J):=vQ (λk=>aH.Z35 N a b c d e f g h i j k) (YT N a b c d e f g h i j _) (fT λa b c d e l f g h i j=>Zc N a b c d e l f g h i j K)
def Ze N a b c d e f g h i j (K:KT J):=vB 3 lG K (aH.Z33 N a b c d e f g h i j (λa b c d e f g h i j=>K .nrm (gI a b c d e f g h i j)) (λl=>K .ret (eo l))) (Zd N a b c d e f g h i j _) (by kernel_rfl)
def Zf N a b c d e f g h i j (K:KT J):cG N 3766679 (gI a b c d e f g h i j) lG K =
 aH.Z54 N a b c d e f g h i j (λa b c d e f g h i j=>K .nrm (gI a b c d e f g h i j)):=by kernel_rfl
def Zg N a b c d e f g h i j (K:KT J):=vQ (λk=>aH.Z33 N a b c d e f g h i j k (λl=>K .ret (eo l))) (Ze N a b c d e f g h i j _) (dN λa b c d e f g h i j=>Zf N a b c d e f g h i j K)
def Zh N a b c d j e f g h i (K:KT J):=vQ (λk=>aH.Z31 N a b c d j e f g h i k (λa b c d e f g h i=>K (.exit 2) (lF a b c d e f g h i))) (YS N a b c d j e f g h i _) (dN λa b c d j e f g h i=>Zg N a b c d j e f g h i K)
def Zi N (K:KT J):=kU K (aH.Z29L N (λa b c d e f g h i=>K (.exit 2) (lF a b c d e f g h i)) (λj=>K .ret (eo j))) (λa b c d l e f g h i k=>aH.Z30 N a b c d l e f g h i k (λa b c d e f g h i=>K (.exit 2) (lF a b c d e f g h i)) (λj=>K .ret (eo j))) (λF a b c d l e f g h i=>Zh N a b c d l e f g h i _) (by kernel_rfl)
def Zj N a b c d e f g h i j (K:KT J):=vL (gI a b c d e f g h i j) (Zi N (jK uD K) N a b c d e f g h i j) (by kernel_rfl)
def Zk N a b c d j e f g h i (K:KT J):=vB 2 uD K (aH.Z28 N a b c d j e f g h i (λa b c d e f g h i=>K .nrm (lF a b c d e f g h i)) (λl=>K .ret (eo l))) (Zj N a b c d j e f g h i _) (by kernel_rfl)
def Zl N a b c d e f g h i (K:KT J):=vQ (λk=>aH.Z27 N a b c d e f g h i k) (YR N a b c d e f g h i _) (dN λa b c d j e f g h i=>Zk N a b c d j e f g h i K)
def Zm N a b c d e f g h i (K:KT J):cG N 194967 (lF a b c d e f g h i) uF K =
 aH.Z56 N a b c d e f g h i (λa b c d j e f g h i=>K .nrm (mX a b c d j e f g h i)):=by kernel_rfl
def Zn N a b c d e f g h i j (K:KT J):cG N 653719 (mX a b c d e f g h i j) Gb K =
 aH.Z59 N a b c d e f g h i j (λa b c d e f g l m h i j=>K .nrm (uG a b c d e f g l m h i j)):=by kernel_rfl
def Zo N a b c d e f g l m h i j (K:KT J):cG N 2488727 (uG a b c d e f g l m h i j) Gb K =
 aH.Z62 N a b c d e f g l m h i j (λa b c d e f g l m h i j=>K .nrm (uG a b c d e f g l m h i j)) (λa b c d e f g h i j=>K (.exit 6) (mX a b c d e f g h i j)):=by kernel_rfl
def Zp N (K:KT J):=qf K (aH.Z61L N (λa b c d e f g h i j=>K (.exit 6) (mX a b c d e f g h i j))) (λa b c d e f g l m h i j k=>aH.Z62 N a b c d e f g l m h i j k (λa b c d e f g h i j=>K (.exit 6) (mX a b c d e f g h i j))) (λF a b c d e f g l m h i j=>Zo N a b c d e f g l m h i j _) (by kernel_rfl)
def Zq N a b c d e f g h i j l m (K:KT J):=vL (uG a b c d e f g h i j l m) (Zp N (jK uF K) N a b c d e f g h i j l m) (by kernel_rfl)
def Zr N a b c d e f g l m h i j (K:KT J):=vB 6 uF K (aH.Z60 N a b c d e f g l m h i j (λa b c d e f g h i j=>K .nrm (mX a b c d e f g h i j))) (Zq N a b c d e f g l m h i j _) (by kernel_rfl)
def Zs N a b c d e f g h i j (K:KT J):=vQ (λk=>aH.Z59 N a b c d e f g h i j k) (Zn N a b c d e f g h i j _) (jo λa b c d e f g l m h i j=>Zr N a b c d e f g l m h i j K)
def Zt N a b c d e f g h i j (K:KT J):cG N 784791 (mX a b c d e f g h i j) YE K =
 aH.Z64 N a b c d e f g h i j (λa b c d e l f g h i j=>K .nrm (Gc a b c d e l f g h i j)):=by kernel_rfl
def Zu N a b c d e f g h i j l (K:KT J):cG N 2619799 (Gc a b c d e f g h i j l) Gd K =
 aH.Z67 N a b c d e f g h i j l (λa b c d e f g h m o i j l=>K .nrm (uH a b c d e f g h m o i j l)):=by kernel_rfl
def Zv N a b c d l e f g m o h i j (K:KT J):cG N 9959831 (uH a b c d l e f g m o h i j) Gd K =
 aH.Z70 N a b c d l e f g m o h i j (λa b c d l e f g m o h i j=>K .nrm (uH a b c d l e f g m o h i j)) (λa b c d e f g h i j=>K (.exit 8) (rq a b c d e f g h i j)):=by kernel_rfl
def Zw N (K:KT J):=s9 K (aH.Z69L N (λa b c d e f g h i j=>K (.exit 8) (rq a b c d e f g h i j))) (λa b c d l e f g m o h i j k=>aH.Z70 N a b c d l e f g m o h i j k (λa b c d e f g h i j=>K (.exit 8) (rq a b c d e f g h i j))) (λF a b c d l e f g m o h i j=>Zv N a b c d l e f g m o h i j _) (by kernel_rfl)
def Zx N a b c d e f g h i j l m o (K:KT J):=vL (uH a b c d e f g h i j l m o) (Zw N (jK zI K) N a b c d e f g h i j l m o) (by kernel_rfl)
def Zy N a b c d l e f g m o h i j (K:KT J):=vB 8 zI K (aH.Z68 N a b c d l e f g m o h i j (λa b c d e f g h i j=>K .nrm (rq a b c d e f g h i j))) (Zx N a b c d l e f g m o h i j _) (by kernel_rfl)
def Zz N a b c d e f g h i j l (K:KT J):=vQ (λk=>aH.Z67 N a b c d e f g h i j l k) (Zu N a b c d e f g h i j l _) (iG λa b c d e f g h m o i j l=>Zy N a b c d e f g h m o i j l K)
def ZA N a b c j d e f g h i (K:KT J):cG N 3144087 (rq a b c j d e f g h i) Ge K =
 aH.Z72 N a b c j d e f g h i (λa b c l d e f m o g h i=>K .nrm (uI a b c l d e f m o g h i)):=by kernel_rfl
def ZB N a b c i j d e l m f g h (K:KT J):cG N 10484119 (uI a b c i j d e l m f g h) Ge K =
 aH.Z75 N a b c i j d e l m f g h (λa b c i j d e l m f g h=>K .nrm (uI a b c i j d e l m f g h)) (λa b c d e f g h=>K (.exit 10) (f6 a b c d e f g h)):=by kernel_rfl
def ZC N (K:KT J):=qf K (aH.Z74L N (λa b c d e f g h=>K (.exit 10) (f6 a b c d e f g h))) (λa b c i j d e l m f g h k=>aH.Z75 N a b c i j d e l m f g h k (λa b c d e f g h=>K (.exit 10) (f6 a b c d e f g h))) (λF a b c i j d e l m f g h=>ZB N a b c i j d e l m f g h _) (by kernel_rfl)
def ZD N a b c d e f g h i j l m (K:KT J):=vL (uI a b c d e f g h i j l m) (ZC N (jK lE K) N a b c d e f g h i j l m) (by kernel_rfl)
def ZE N a b c i j d e l m f g h (K:KT J):=vB 10 lE K (aH.Z73 N a b c i j d e l m f g h (λa b c d e f g h=>K .nrm (f6 a b c d e f g h))) (ZD N a b c i j d e l m f g h _) (by kernel_rfl)
def ZF N a b c j d e f g h i (K:KT J):=vQ (λk=>aH.Z72 N a b c j d e f g h i k) (ZA N a b c j d e f g h i _) (jo λa b c l d e f m o g h i=>ZE N a b c l d e f m o g h i K)
def ZG N a b c d l e f g h i j (K:KT J):=vQ (λk=>aH.Z66 N a b c d l e f g h i j k) (Zz N a b c d l e f g h i j _) (dN λa b c d e f g h i j=>ZF N a b c d e f g h i j K)
def ZH N a b c d e f g h i j (K:KT J):=vQ (λk=>aH.Z64 N a b c d e f g h i j k) (Zt N a b c d e f g h i j _) (fT λa b c d e l f g h i j=>ZG N a b c d e l f g h i j K)
def ZI N a b c d e f g h i j (K:KT J):=vQ (λk=>aH.Z58 N a b c d e f g h i j k) (Zs N a b c d e f g h i j _) (dN λa b c d e f g h i j=>ZH N a b c d e f g h i j K)
def ZJ N a b c d e f g h i (K:KT J):=vQ (λk=>aH.Z56 N a b c d e f g h i k) (Zm N a b c d e f g h i _) (dN λa b c d j e f g h i=>ZI N a b c d j e f g h i K)
def ZK N a b c d e f g h i (K:KT J):=vQ (λk=>aH.Z26 N a b c d e f g h i k (λj=>K .ret (eo j))) (Zl N a b c d e f g h i _) (dM λa b c d e f g h i=>ZJ N a b c d e f g h i K)
def ZL N a b c i d e f g h (K:KT J):=vQ (λk=>aH.Z24 N a b c i d e f g h k) (YQ N a b c i d e f g h _) (dM λa b c j d e f g h=>ZK N a b c j d e f g h K)
def ZM N a b c d e f g h i (K:KT J):=vQ (λk=>aH.Z22 N a b c d e f g h i k) (YP N a b c d e f g h i _) (dM λa b c d e f g h i=>ZL N a b c d e f g h i K)
def ZN N a b c i d e f g h (K:KT J):=vQ (λk=>aH.Z20 N a b c i d e f g h k (λa b c d e f g h=>K (.exit 1) (f6 a b c d e f g h))) (YO N a b c i d e f g h _) (dM λa b c i d e f g h=>ZM N a b c i d e f g h K)
def ZO N a b c d e f g h (K:KT J):=vQ (λk=>aH.Z18 N a b c d e f g h k) (YN N a b c d e f g h _) (dM λa b c i d e f g h=>ZN N a b c i d e f g h K)
def ZP N a b c d e f g h (K:KT J):=vB 1 lE K (aH.Z16 N a b c d e f g h (λa b c d e f g h=>K .nrm (f6 a b c d e f g h)) (λi=>K .ret (eo i))) (ZO N a b c d e f g h _) (by kernel_rfl)
def ZQ N a b c d e f g h (K:KT J):cG N 1943 (f6 a b c d e f g h) lE K =
 aH.Z76 N a b c d e f g h (λa b c d e f g h=>K .nrm (f6 a b c d e f g h)):=by kernel_rfl
def ZR N a b c d e f g h (K:KT J):=vQ (λk=>aH.Z16 N a b c d e f g h k (λi=>K .ret (eo i))) (ZP N a b c d e f g h _) (ed λa b c d e f g h=>ZQ N a b c d e f g h K)
def ZS N b c a d e i f g h (K:KT J):=vQ (λk=>aH.Z14 N b c a d e i f g h k (λa=>K (.exit 0) (oJ a))) (YM N b c a d e i f g h _) (ed λb c a d e f g h=>ZR N b c a d e f g h K)
def ZT N a b c d e f g h (K:KT J):=vQ (λk=>aH.Z12 N a b c d e f g h k) (YL N a b c d e f g h _) (dM λa b c d e i f g h=>ZS N a b c d e i f g h K)
def ZU N (K:KT J):=nU K (aH.Z10L N (λa=>K (.exit 0) (oJ a)) (λb=>K .ret (eo b))) (λc d a e f g h i k=>aH.Z11 N c d a e f g h i k (λa=>K (.exit 0) (oJ a)) (λb=>K .ret (eo b))) (λF c d a e f g h i=>ZT N c d a e f g h i _) (by kernel_rfl)
def ZV N a b c d e f g h (K:KT J):=vL (f6 a b c d e f g h) (ZU N (jK zK K) N a b c d e f g h) (by kernel_rfl)
def ZW N b c a d e f g h (K:KT J):=vB 0 zK K (aH.Z9 N b c a d e f g h (λa=>K .nrm (oJ a)) (λi=>K .ret (eo i))) (ZV N b c a d e f g h _) (by kernel_rfl)
def ZX N a b c d e f (K:KT J):=vQ (λk=>aH.Z8 N a b c d e f k) (YK N a b c d e f _) (ed λa b c g h d e f=>ZW N a b c g h d e f K)
def ZY N a (K:KT J):cG N 31 (oJ a) Yv K =
 aH.Z77 N a (λb=>K .ret (eo b)):=by kernel_rfl
def ZZ N b c a d e f (K:KT J):=vQ (λk=>aH.Z7 N b c a d e f k (λg=>K .ret (eo g))) (ZX N b c a d e f _) (funext λa=>ZY N a K)
def f64t4 N a b c d e (K:KT J):=vQ (λk=>aH.Z5 N a b c d e k) (YJ N a b c d e _) (da λa b f c d e=>ZZ N a b f c d e K)
def f64t2 N a b c (K:KT J):=vQ (λk=>aH.Z3 N a b c k) (YI N a b c _) (cN λd e a b c=>f64t4 N d e a b c K)
def f64t0 N a (K:KT J):=vQ (λk=>aH.Z1 N a k) (YH N a _) (fG λb c d=>f64t2 N b c d K)
def f64ok(h:aH.Spec):aG Try.prog 64 uC :=
 bQ Try.func64 bv Yu (λN X K=>f64t0 N X.1 K) (by kernel_rfl) λX hb hp=>by obtain⟨a,_⟩:=X;obtain⟨N,h⟩:=h a hb.1 hp;exact⟨N,Eq.trans (by kernel_rfl) (h N (Nat.le_refl N))⟩
def Gf:aG Try.prog 64 uC:=f64ok aH.ok
def Gg:bC:=⟨[⟨.pair (.int .i64) (.pair (.int .i64) (.sl 3 (.int .i64))),true,false⟩],[⟨.bool,false,false⟩]⟩
def ru:a8:=⟨Gg,none,λX=>((),((f8.g X.1),()))⟩
def Gh:Gm:=aY (aY bk 63 uA) 64 uC
def f61GOk:au Try.prog Gh:=((au.nil).add FV (by kernel_rfl)).add Gf (by kernel_rfl)
def f61lE:aa:=⟨[],[],[],[],[]⟩
def f61s0(a:MT):St:=bH Gg.ps (a,())
def f61s1(a:Bool):St:=ah [(2,xB a)] [] []
def f61l1:aa:=⟨[2],[],[],[],[]⟩
def f61B:Nat->Option aa:=aA [(1000000,f61l1)]
abbrev f61j{J:Type}(N n:Nat)(V:St)(l:aa)(K:KT J):Option J:=ak Gh bm f61B N (bf 99 (bu Try.f61) n) .n V (ax (some l) K)
def f61t0 N a (K:KT J):f61j N 1 (f61s0 a) f61lE K =
 f8.Z0 N a (λb=>K .ret (f61s1 b)):=by kernel_rfl
def f61ok(h:f8.Spec):aG Try.prog 61 ru :=
 bQ Try.func61 bv f61GOk (λN X K=>f61t0 N X.1 K) (by kernel_rfl) λX hb hp=>by obtain⟨a,_⟩:=X;obtain⟨N,h⟩:=h a hb.1;exact⟨N,Eq.trans (by kernel_rfl) (h N (Nat.le_refl N))⟩
def zL:aG Try.prog 61 ru:=f61ok f8.ok
def Gi:bC:=⟨[⟨.sl 3 (.int .i64),false,false⟩],[⟨.sl 3 (.int .i64),false,false⟩]⟩
def rz:a8:=⟨Gi,(some λX=>cZ.P X.1),λX=>((),((cZ.g X.1),()))⟩
def Gj:Gm:=bk
def f62GOk:au Try.prog Gj:=au.nil
def f62lE:aa:=⟨[],[],[],[],[]⟩
def f62s0(a:LI):St:=bH Gi.ps (a,())
def f62s1(a:LI):St:=ah [(2,xo 1000128)] [] [(1000128,(⟨3,.int .i64,a,true,false⟩:ac))]
def f62l1:aa:=⟨[2],[],[⟨⟨false,2,0⟩,30000000,3,.int .i64,true⟩],[],[(⟨false,2,0⟩,1000128)]⟩
def f62B:Nat->Option aa:=aA [(1000000,f62l1)]
abbrev f62j{J:Type}(N n:Nat)(V:St)(l:aa)(K:KT J):Option J:=ak Gj bm f62B N (bf 99 (bu Try.f62) n) .n V (ax (some l) K)
def f62t0 N a (K:KT J):f62j N 1 (f62s0 a) f62lE K =
 cZ.Z0 N a (λb=>K .ret (f62s1 b)):=by kernel_rfl
def f62ok(h:cZ.Spec):aG Try.prog 62 rz :=
 bQ Try.func62 bv f62GOk (λN X K=>f62t0 N X.1 K) (by kernel_rfl) λX hb hp=>by obtain⟨a,_⟩:=X;obtain⟨N,h⟩:=h a hb.1 hp;exact⟨N,Eq.trans (by kernel_rfl) (h N (Nat.le_refl N))⟩
def zM:aG Try.prog 62 rz:=f62ok cZ.ok
def Gk:bC:=⟨[⟨.pair (.int .i64) (.pair (.int .i64) (.sl 3 (.int .i64))),true,false⟩],[⟨.pair (.int .i64) (.pair (.int .i64) (.sl 3 (.int .i64))),true,false⟩,⟨.bool,false,false⟩]⟩
def zN:a8:=⟨Gk,none,λX=>((),((bO.g X.1).1,((bO.g X.1).2,())))⟩
def Gl:Gm:=aY (aY bk 61 ru) 62 rz
def f30GOk:au Try.prog Gl:=((au.nil).add zL (by kernel_rfl)).add zM (by kernel_rfl)
def f30lE:aa:=⟨[],[],[],[],[]⟩
def f30s0(a:MT):St:=bH Gk.ps (a,())
def uJ(a b:Int)(c:LI)(d e:Int):St:=ah [(1,xb 1),(2,xb 2)] [(1,(26,[yi a,yi b,.sn 3 tI c none])),(2,(26,[yi d,yi e,.nil]))] []
def Gn:aa:=⟨[1,2],[1,2],[],[],[]⟩
def Gp(a:LI)(b c:Int)(d:LI)(e f g h:Int):St:=ah [(1,xb 1),(2,xb 2),(4,xb 4)] [(1,(26,[yi b,yi c,.sn 3 tI d none])),(2,(26,[yi e,yi f,.nil])),(4,(26,[yi g,yi h,.own 20000258]))] [(20000258,(⟨3,.int .i64,a,true,false⟩:ac))]
def f30l2:aa:=⟨[1,2,4],[1,2,4],[],[],[(⟨true,4,2⟩,20000258)]⟩
def iq(a:LI)(b c d:Int)(e:LI)(f g h i:Int):St:=ah [(1,xb 1),(2,xb 2),(4,xb 4),(5,xi b)] [(1,(26,[yi c,yi d,.sn 3 tI e none])),(2,(26,[yi f,yi g,.nil])),(4,(26,[yi h,yi i,.own 20000258]))] [(20000258,(⟨3,.int .i64,a,true,false⟩:ac))]
def lH:aa:=⟨[1,2,4,5],[1,2,4],[],[],[(⟨true,4,2⟩,20000258)]⟩
def uK(a:LI)(b c d e:Int)(f:LI)(g h i j:Int):St:=ah [(1,xb 1),(2,xb 2),(4,xb 4),(5,xi b),(6,xi c)] [(1,(26,[yi d,yi e,.sn 3 tI f none])),(2,(26,[yi g,yi h,.nil])),(4,(26,[yi i,yi j,.own 20000258]))] [(20000258,(⟨3,.int .i64,a,true,false⟩:ac))]
def Gq:aa:=⟨[1,2,4,5,6],[1,2,4],[],[],[(⟨true,4,2⟩,20000258)]⟩
def oK(a:LI)(b c d e:Int):St:=ah [(2,xb 2),(4,xb 4)] [(2,(26,[yi b,yi c,.nil])),(4,(26,[yi d,yi e,.own 20000258]))] [(20000258,(⟨3,.int .i64,a,true,false⟩:ac))]
def zO:aa:=⟨[2,4],[2,4],[],[],[(⟨true,4,2⟩,20000258)]⟩
def zQ(a:LI)(b:Bool)(c d:Int):St:=ah [(2,xb 2),(3,xB b)] [(2,(26,[yi c,yi d,.own 20000130]))] [(20000130,(⟨3,.int .i64,a,true,false⟩:ac))]
def f30l6:aa:=⟨[2,3],[2],[⟨⟨true,2,2⟩,30000000,3,.int .i64,true⟩],[],[(⟨true,2,2⟩,20000130)]⟩
def f30B:Nat->Option aa:=aA [(2,lH),(1,lH),(0,zO),(1000000,f30l6)]
abbrev kj{J:Type}(N n:Nat)(V:St)(l:aa)(K:KT J):Option J:=ak Gl bm f30B N (bf 99 (bu Try.f30) n) .n V (ax (some l) K)
def f30t1 N a (K:KT J):kj N 2 (f30s0 a) Gn K =
 bO.Z1 N a (λb c d e f=>K .nrm (uJ b c d e f)):=by kernel_rfl
def f30t3 N c d e a b (K:KT J):kj N 5 (uJ c d e a b) Gn K =
 bO.Z3 N c d e a b (λc d e a b=>K .nrm (uJ c d e a b)) (λf g a b=>K .ret (zQ f g a b)):=by kernel_rfl
def f30t5 N a b c d e (K:KT J):kj N 11 (uJ a b c d e) f30l2 K =
 bO.Z5 N a b c d e (λf a b c d e g h=>K .nrm (Gp f a b c d e g h)):=by kernel_rfl
def f30t8 N a b c d e f g h (K:KT J):kj N 39 (Gp a b c d e f g h) lH K =
 bO.Z8 N a b c d e f g h (λa i b c d e f g h=>K .nrm (iq a i b c d e f g h)):=by kernel_rfl
def f30t12 N a f g h i b c d e (K:KT J):kj N 279 (iq a f g h i b c d e) lH K =
 bO.Z12 N a f g h i b c d e (λa f g h i b c d e=>K .nrm (iq a f g h i b c d e)) (λa b c d e=>K (.exit 0) (oK a b c d e)):=by kernel_rfl
def f30t16 N a b c d e f g h i (K:KT J):kj N 2199 (iq a b c d e f g h i) Gq K =
 bO.Z16 N a b c d e f g h i (λa b j c d e f g h i=>K .nrm (uK a b j c d e f g h i)):=by kernel_rfl
def f30t19 N a b j c d e f g h i (K:KT J):kj N 9367 (uK a b j c d e f g h i) Gq K =
 bO.Z19 N a b j c d e f g h i (λa b j c d e f g h i=>K .nrm (uK a b j c d e f g h i)) (λa b c d e f g h i=>K (.exit 2) (iq a b c d e f g h i)):=by kernel_rfl
def f30t18L N (K:KT J):=kU K (bO.Z18L N (λa b c d e f g h i=>K (.exit 2) (iq a b c d e f g h i))) (λa b j c d e f g h i k=>bO.Z19 N a b j c d e f g h i k (λa b c d e f g h i=>K (.exit 2) (iq a b c d e f g h i))) (λF a b j c d e f g h i=>f30t19 N a b j c d e f g h i _) (by kernel_rfl)
def f30t18 N a b c d e f g h i j (K:KT J):=vL (uK a b c d e f g h i j) (f30t18L N (jK lH K) N a b c d e f g h i j) (by kernel_rfl)
def f30t17 N a b j c d e f g h i (K:KT J):=vB 2 lH K (bO.Z17 N a b j c d e f g h i (λa b c d e f g h i=>K .nrm (iq a b c d e f g h i))) (f30t18 N a b j c d e f g h i _) (by kernel_rfl)
def f30t15 N a b c d e f g h i (K:KT J):=vQ (λk=>bO.Z16 N a b c d e f g h i k) (f30t16 N a b c d e f g h i _) (dN λa b j c d e f g h i=>f30t17 N a b j c d e f g h i K)
def f30t14 N a b c d e f g h i (K:KT J):=vB 1 lH K (bO.Z14 N a b c d e f g h i (λa b c d e f g h i=>K .nrm (iq a b c d e f g h i))) (f30t15 N a b c d e f g h i _) (by kernel_rfl)
def f30t20 N a b c d e f g h i (K:KT J):kj N 919 (iq a b c d e f g h i) lH K =
 bO.Z20 N a b c d e f g h i (λa b c d e f g h i=>K .nrm (iq a b c d e f g h i)):=by kernel_rfl
def f30t13 N a b c d e f g h i (K:KT J):=vQ (λk=>bO.Z14 N a b c d e f g h i k) (f30t14 N a b c d e f g h i _) (dM λa b c d e f g h i=>f30t20 N a b c d e f g h i K)
def f30t11 N a f g h i b c d e (K:KT J):=vQ (λk=>bO.Z12 N a f g h i b c d e k (λa b c d e=>K (.exit 0) (oK a b c d e))) (f30t12 N a f g h i b c d e _) (dM λa f g h i b c d e=>f30t13 N a f g h i b c d e K)
def f30t10L N (K:KT J):=qe K (bO.Z10L N (λa b c d e=>K (.exit 0) (oK a b c d e))) (λa f g h i b c d e k=>bO.Z11 N a f g h i b c d e k (λa b c d e=>K (.exit 0) (oK a b c d e))) (λF a f g h i b c d e=>f30t11 N a f g h i b c d e _) (by kernel_rfl)
def f30t10 N a b c d e f g h i (K:KT J):=vL (iq a b c d e f g h i) (f30t10L N (jK zO K) N a b c d e f g h i) (by kernel_rfl)
def f30t9 N a f g h i b c d e (K:KT J):=vB 0 zO K (bO.Z9 N a f g h i b c d e (λa b c d e=>K .nrm (oK a b c d e))) (f30t10 N a f g h i b c d e _) (by kernel_rfl)
def f30t7 N a b c d e f g h (K:KT J):=vQ (λk=>bO.Z8 N a b c d e f g h k) (f30t8 N a b c d e f g h _) (dM λa i b c d e f g h=>f30t9 N a i b c d e f g h K)
def f30t21 N c a b d e (K:KT J):kj N 31 (oK c a b d e) f30lE K =
 bO.Z21 N c a b d e (λf g a b=>K .ret (zQ f g a b)):=by kernel_rfl
def f30t6 N a f g h b c d e (K:KT J):=vQ (λk=>bO.Z7 N a f g h b c d e k) (f30t7 N a f g h b c d e _) (cN λa b c d e=>f30t21 N a b c d e K)
def f30t4 N a b c d e (K:KT J):=vQ (λk=>bO.Z5 N a b c d e k) (f30t5 N a b c d e _) (ed λf a b c d e g h=>f30t6 N f a b c d e g h K)
def f30t2 N c d e a b (K:KT J):=vQ (λk=>bO.Z3 N c d e a b k (λf g a b=>K .ret (zQ f g a b))) (f30t3 N c d e a b _) (cN λc d e a b=>f30t4 N c d e a b K)
def f30t0 N a (K:KT J):=vQ (λk=>bO.Z1 N a k) (f30t1 N a _) (cN λb c d e f=>f30t2 N b c d e f K)
def f30ok(h:bO.Spec):aG Try.prog 30 zN :=
 bQ Try.func30 bv f30GOk (λN X K=>f30t0 N X.1 K) (by kernel_rfl) λX hb hp=>by obtain⟨a,_⟩:=X;obtain⟨N,h⟩:=h a hb.1;exact⟨N,Eq.trans (by kernel_rfl) (h N (Nat.le_refl N))⟩
def e30ok:aG Try.prog 30 zN:=f30ok bO.ok
def Gr:bC:=⟨[⟨.pair (.int .i64) (.pair (.int .i64) (.sl 3 (.int .i64))),true,false⟩,⟨.int .i64,false,false⟩],[⟨.pair (.int .i64) (.pair (.int .i64) (.sl 3 (.int .i64))),true,false⟩]⟩
def zR:a8:=⟨Gr,(some λX=>bJ.P X.1 X.2.1),λX=>((),((bJ.g X.1 X.2.1),()))⟩
def Gs:Gm:=aY (aY bk 60 mW) 62 rz
def f79GOk:au Try.prog Gs:=((au.nil).add rj (by kernel_rfl)).add zM (by kernel_rfl)
def f79lE:aa:=⟨[],[],[],[],[]⟩
def f79s0(a:MT)(b:Int):St:=bH Gr.ps (a,(b,()))
def Gt(a b c:Int)(d:LI)(e f:Int):St:=ah [(1,xi a),(2,xb 2),(4,xb 4)] [(2,(26,[yi b,yi c,.sn 3 tI d none])),(4,(26,[yi e,yi f,.nil]))] []
def f79l1:aa:=⟨[1,2,4],[2,4],[],[],[]⟩
def Gu(a:LI)(b c d:Int)(e:LI)(f g h i:Int):St:=ah [(1,xi b),(2,xb 2),(4,xb 4),(5,xb 5)] [(2,(26,[yi c,yi d,.sn 3 tI e none])),(4,(26,[yi f,yi g,.nil])),(5,(26,[yi h,yi i,.own 20000322]))] [(20000322,(⟨3,.int .i64,a,true,false⟩:ac))]
def f79l2:aa:=⟨[1,2,4,5],[2,4,5],[],[],[(⟨true,5,2⟩,20000322)]⟩
def gJ(a:LI)(b c d e:Int)(f:LI)(g h i j:Int):St:=ah [(1,xi b),(2,xb 2),(4,xb 4),(5,xb 5),(6,xi c)] [(2,(26,[yi d,yi e,.sn 3 tI f none])),(4,(26,[yi g,yi h,.nil])),(5,(26,[yi i,yi j,.own 20000322]))] [(20000322,(⟨3,.int .i64,a,true,false⟩:ac))]
def lI:aa:=⟨[1,2,4,5,6],[2,4,5],[],[],[(⟨true,5,2⟩,20000322)]⟩
def jI(a:LI)(b c d e f:Int)(g:LI)(h i j l:Int):St:=ah [(1,xi b),(2,xb 2),(4,xb 4),(5,xb 5),(6,xi c),(7,xi d)] [(2,(26,[yi e,yi f,.sn 3 tI g none])),(4,(26,[yi h,yi i,.nil])),(5,(26,[yi j,yi l,.own 20000322]))] [(20000322,(⟨3,.int .i64,a,true,false⟩:ac))]
def lJ:aa:=⟨[1,2,4,5,6,7],[2,4,5],[],[],[(⟨true,5,2⟩,20000322)]⟩
def Gv(a:LI)(b d e f g h:Int)(i:LI)(j l m o:Int):St:=ah [(1,xi b),(2,xb 2),(4,xb 4),(5,xb 5),(6,xi d),(7,xi e),(8,.c (.elt 20000322 f 0))] [(2,(26,[yi g,yi h,.sn 3 tI i none])),(4,(26,[yi j,yi l,.nil])),(5,(26,[yi m,yi o,.own 20000322]))] [(20000322,(⟨3,.int .i64,a,true,false⟩:ac))]
def f79l5:aa:=⟨[1,2,4,5,6,7,8],[2,4,5],[],[],[(⟨true,5,2⟩,20000322)]⟩
def Gw(a:LI)(b d e f g h i j:Int)(l:LI)(m o p q:Int):St:=ah [(1,xi b),(2,xb 2),(4,xb 4),(5,xb 5),(6,xi d),(7,xi e),(8,.c (.elt 20000322 f 0)),(9,xi g),(10,xi h)] [(2,(26,[yi i,yi j,.sn 3 tI l none])),(4,(26,[yi m,yi o,.nil])),(5,(26,[yi p,yi q,.own 20000322]))] [(20000322,(⟨3,.int .i64,a,true,false⟩:ac))]
def f79l6:aa:=⟨[1,2,4,5,6,7,8,9,10],[2,4,5],[],[],[(⟨true,5,2⟩,20000322)]⟩
def Gx(a:LI)(b d e f g h:Int)(i:Bool)(j l:Int)(m:LI)(o p q r:Int):St:=ah [(1,xi b),(2,xb 2),(4,xb 4),(5,xb 5),(6,xi d),(7,xi e),(8,.c (.elt 20000322 f 0)),(9,xi g),(10,xi h),(48,xB i)] [(2,(26,[yi j,yi l,.sn 3 tI m none])),(4,(26,[yi o,yi p,.nil])),(5,(26,[yi q,yi r,.own 20000322]))] [(20000322,(⟨3,.int .i64,a,true,false⟩:ac))]
def f79l7:aa:=⟨[1,2,4,5,6,7,8,9,10,48],[2,4,5],[],[],[(⟨true,5,2⟩,20000322)]⟩
def oL(a:LI)(b c d e:Int):St:=ah [(4,xb 4),(5,xb 5)] [(4,(26,[yi b,yi c,.nil])),(5,(26,[yi d,yi e,.own 20000322]))] [(20000322,(⟨3,.int .i64,a,true,false⟩:ac))]
def zS:aa:=⟨[4,5],[4,5],[],[],[(⟨true,5,2⟩,20000322)]⟩
def f79s9(a:LI)(b c:Int):St:=ah [(4,xb 4)] [(4,(26,[yi b,yi c,.own 20000258]))] [(20000258,(⟨3,.int .i64,a,true,false⟩:ac))]
def f79l9:aa:=⟨[4],[4],[],[],[(⟨true,4,2⟩,20000258)]⟩
def f79B:Nat->Option aa:=aA [(4,lJ),(3,lJ),(2,lI),(1,lI),(0,zS),(1000000,f79l9)]
abbrev gK{J:Type}(N n:Nat)(V:St)(l:aa)(K:KT J):Option J:=ak Gs bm f79B N (bf 99 (bu Try.f79) n) .n V (ax (some l) K)
def f79t1 N b a (K:KT J):gK N 2 (f79s0 b a) f79l1 K =
 bJ.Z1 N b a (λa c d e f g=>K .nrm (Gt a c d e f g)):=by kernel_rfl
def f79t3 N a b c d e f (K:KT J):gK N 5 (Gt a b c d e f) f79l2 K =
 bJ.Z3 N a b c d e f (λg a b c d e f h i=>K .nrm (Gu g a b c d e f h i)):=by kernel_rfl
def f79t6 N a b c d e f g h i (K:KT J):gK N 19 (Gu a b c d e f g h i) lI K =
 bJ.Z6 N a b c d e f g h i (λa b j c d e f g h i=>K .nrm (gJ a b j c d e f g h i)):=by kernel_rfl
def f79t10 N a f g h i j b c d e (K:KT J):gK N 139 (gJ a f g h i j b c d e) lI K =
 bJ.Z10 N a f g h i j b c d e (λa f g h i j b c d e=>K .nrm (gJ a f g h i j b c d e)) (λa b c d e=>K (.exit 0) (oL a b c d e)):=by kernel_rfl
def f79t14 N a b c d e f g h i j (K:KT J):gK N 1099 (gJ a b c d e f g h i j) lJ K =
 bJ.Z14 N a b c d e f g h i j (λa b c l d e f g h i j=>K .nrm (jI a b c l d e f g h i j)):=by kernel_rfl
def f79t18 N a b c l d e f g h i j (K:KT J):gK N 8779 (jI a b c l d e f g h i j) lJ K =
 bJ.Z18 N a b c l d e f g h i j (λa b c l d e f g h i j=>K .nrm (jI a b c l d e f g h i j)) (λa b c d e f g h i j=>K (.exit 2) (gJ a b c d e f g h i j)):=by kernel_rfl
def f79t22 N a b c d e f g h i j l (K:KT J):gK N 70219 (jI a b c d e f g h i j l) f79l5 K =
 bJ.Z22 N a b c d e f g h i j l (λa b c d m e f g h i j l=>K .nrm (Gv a b c d m e f g h i j l)):=by kernel_rfl
def f79t24 N a b c d e f g h i j l m (K:KT J):gK N 168523 (Gv a b c d e f g h i j l m) f79l6 K =
 bJ.Z24 N a b c d e f g h i j l m (λa b c d e o p f g h i j l m=>K .nrm (Gw a b c d e o p f g h i j l m)):=by kernel_rfl
def f79t27 N a b c d e f g h i j l m o p (K:KT J):gK N 627275 (Gw a b c d e f g h i j l m o p) f79l7 K =
 bJ.Z27 N a b c d e f g h i j l m o p (λa b c d e f g q h i j l m o p=>K .nrm (Gx a b c d e f g q h i j l m o p)):=by kernel_rfl
def f79t28 N a b c d m o p q e f g h i j l (K:KT J):gK N 889419 (Gx a b c d m o p q e f g h i j l) lJ K =
 bJ.Z28 N a b c d m o p q e f g h i j l (λa b c d e f g h i j l=>K .nrm (jI a b c d e f g h i j l)):=by kernel_rfl
def f79t26 N a b c d e f g h i j l m o p (K:KT J):=vQ (λk=>bJ.Z27 N a b c d e f g h i j l m o p k) (f79t27 N a b c d e f g h i j l m o p _) (qb λa b c d e f g q h i j l m o p=>f79t28 N a b c d e f g q h i j l m o p K)
def f79t25 N a b c d m o p e f g h i j l (K:KT J):=vB 4 lJ K (bJ.Z25 N a b c d m o p e f g h i j l (λa b c d e f g h i j l=>K .nrm (jI a b c d e f g h i j l))) (f79t26 N a b c d m o p e f g h i j l _) (by kernel_rfl)
def f79t23 N a b c d e f g h i j l m (K:KT J):=vQ (λk=>bJ.Z24 N a b c d e f g h i j l m k) (f79t24 N a b c d e f g h i j l m _) (nR λa b c d e o p f g h i j l m=>f79t25 N a b c d e o p f g h i j l m K)
def f79t21 N a b c d e f g h i j l (K:KT J):=vQ (λk=>bJ.Z22 N a b c d e f g h i j l k) (f79t22 N a b c d e f g h i j l _) (jo λa b c d m e f g h i j l=>f79t23 N a b c d m e f g h i j l K)
def f79t20 N a b c d e f g h i j l (K:KT J):=vB 3 lJ K (bJ.Z20 N a b c d e f g h i j l (λa b c d e f g h i j l=>K .nrm (jI a b c d e f g h i j l))) (f79t21 N a b c d e f g h i j l _) (by kernel_rfl)
def f79t29 N a b c d e f g h i j l (K:KT J):gK N 29259 (jI a b c d e f g h i j l) lJ K =
 bJ.Z29 N a b c d e f g h i j l (λa b c d e f g h i j l=>K .nrm (jI a b c d e f g h i j l)):=by kernel_rfl
def f79t19 N a b c d e f g h i j l (K:KT J):=vQ (λk=>bJ.Z20 N a b c d e f g h i j l k) (f79t20 N a b c d e f g h i j l _) (fT λa b c d e f g h i j l=>f79t29 N a b c d e f g h i j l K)
def f79t17 N a b c l d e f g h i j (K:KT J):=vQ (λk=>bJ.Z18 N a b c l d e f g h i j k (λa b c d e f g h i j=>K (.exit 2) (gJ a b c d e f g h i j))) (f79t18 N a b c l d e f g h i j _) (fT λa b c l d e f g h i j=>f79t19 N a b c l d e f g h i j K)
def f79t16L N (K:KT J):=s8 K (bJ.Z16L N (λa b c d e f g h i j=>K (.exit 2) (gJ a b c d e f g h i j))) (λa b c l d e f g h i j k=>bJ.Z17 N a b c l d e f g h i j k (λa b c d e f g h i j=>K (.exit 2) (gJ a b c d e f g h i j))) (λF a b c l d e f g h i j=>f79t17 N a b c l d e f g h i j _) (by kernel_rfl)
def f79t16 N a b c d e f g h i j l (K:KT J):=vL (jI a b c d e f g h i j l) (f79t16L N (jK lI K) N a b c d e f g h i j l) (by kernel_rfl)
def f79t15 N a b c l d e f g h i j (K:KT J):=vB 2 lI K (bJ.Z15 N a b c l d e f g h i j (λa b c d e f g h i j=>K .nrm (gJ a b c d e f g h i j))) (f79t16 N a b c l d e f g h i j _) (by kernel_rfl)
def f79t13 N a b c d e f g h i j (K:KT J):=vQ (λk=>bJ.Z14 N a b c d e f g h i j k) (f79t14 N a b c d e f g h i j _) (fT λa b c l d e f g h i j=>f79t15 N a b c l d e f g h i j K)
def f79t12 N a b c d e f g h i j (K:KT J):=vB 1 lI K (bJ.Z12 N a b c d e f g h i j (λa b c d e f g h i j=>K .nrm (gJ a b c d e f g h i j))) (f79t13 N a b c d e f g h i j _) (by kernel_rfl)
def f79t30 N a b c d e f g h i j (K:KT J):gK N 459 (gJ a b c d e f g h i j) lI K =
 bJ.Z30 N a b c d e f g h i j (λa b c d e f g h i j=>K .nrm (gJ a b c d e f g h i j)):=by kernel_rfl
def f79t11 N a b c d e f g h i j (K:KT J):=vQ (λk=>bJ.Z12 N a b c d e f g h i j k) (f79t12 N a b c d e f g h i j _) (dN λa b c d e f g h i j=>f79t30 N a b c d e f g h i j K)
def f79t9 N a f g h i j b c d e (K:KT J):=vQ (λk=>bJ.Z10 N a f g h i j b c d e k (λa b c d e=>K (.exit 0) (oL a b c d e))) (f79t10 N a f g h i j b c d e _) (dN λa f g h i j b c d e=>f79t11 N a f g h i j b c d e K)
def f79t8L N (K:KT J):=kU K (bJ.Z8L N (λa b c d e=>K (.exit 0) (oL a b c d e))) (λa f g h i j b c d e k=>bJ.Z9 N a f g h i j b c d e k (λa b c d e=>K (.exit 0) (oL a b c d e))) (λF a f g h i j b c d e=>f79t9 N a f g h i j b c d e _) (by kernel_rfl)
def f79t8 N a b c d e f g h i j (K:KT J):=vL (gJ a b c d e f g h i j) (f79t8L N (jK zS K) N a b c d e f g h i j) (by kernel_rfl)
def f79t7 N a f g h i j b c d e (K:KT J):=vB 0 zS K (bJ.Z7 N a f g h i j b c d e (λa b c d e=>K .nrm (oL a b c d e))) (f79t8 N a f g h i j b c d e _) (by kernel_rfl)
def f79t5 N a b c d e f g h i (K:KT J):=vQ (λk=>bJ.Z6 N a b c d e f g h i k) (f79t6 N a b c d e f g h i _) (dN λa b j c d e f g h i=>f79t7 N a b j c d e f g h i K)
def f79t31 N c a b d e (K:KT J):gK N 15 (oL c a b d e) f79lE K =
 bJ.Z31 N c a b d e (λf a b=>K .ret (f79s9 f a b)):=by kernel_rfl
def f79t4 N a f g h i b c d e (K:KT J):=vQ (λk=>bJ.Z5 N a f g h i b c d e k) (f79t5 N a f g h i b c d e _) (cN λa b c d e=>f79t31 N a b c d e K)
def f79t2 N a b c d e f (K:KT J):=vQ (λk=>bJ.Z3 N a b c d e f k) (f79t3 N a b c d e f _) (dM λg a b c d e f h i=>f79t4 N g a b c d e f h i K)
def f79t0 N b a (K:KT J):=vQ (λk=>bJ.Z1 N b a k) (f79t1 N b a _) (da λa c d e f g=>f79t2 N a c d e f g K)
def f79ok(h:bJ.Spec):aG Try.prog 79 zR :=
 bQ Try.func79 bv f79GOk (λN X K=>f79t0 N X.1 X.2.1 K) (by kernel_rfl) λX hb hp=>by obtain⟨a,b,_⟩:=X;obtain⟨N,h⟩:=h a b hb.1 hp;exact⟨N,Eq.trans (by kernel_rfl) (h N (Nat.le_refl N))⟩
def e79ok:aG Try.prog 79 zR:=f79ok bJ.ok
def Gy:bC:=⟨[⟨.pair (.int .i64) (.pair (.int .i64) (.sl 3 (.int .i64))),true,false⟩,⟨.int .i64,false,false⟩],[⟨.pair (.int .i64) (.pair (.int .i64) (.sl 3 (.int .i64))),true,false⟩,⟨.bool,false,false⟩]⟩
def uL:a8:=⟨Gy,none,λX=>((),((bK.g X.1 X.2.1).1,((bK.g X.1 X.2.1).2,())))⟩
def Gz:Gm:=aY (aY (aY bk 61 ru) 65 oF) 79 zR
def f40GOk:au Try.prog Gz:=(((au.nil).add zL (by kernel_rfl)).add ux (by kernel_rfl)).add e79ok (by kernel_rfl)
def f40lE:aa:=⟨[],[],[],[],[]⟩
def f40s0(a:MT)(b:Int):St:=bH Gy.ps (a,(b,()))
def f40s1(a:LI)(b:Bool)(c d:Int):St:=ah [(4,xb 4),(5,xB b)] [(4,(26,[yi c,yi d,.own 20000258]))] [(20000258,(⟨3,.int .i64,a,true,false⟩:ac))]
def f40l1:aa:=⟨[4,5],[4],[⟨⟨true,4,2⟩,30000000,3,.int .i64,true⟩],[],[(⟨true,4,2⟩,20000258)]⟩
def f40B:Nat->Option aa:=aA [(1000000,f40l1)]
abbrev f40j{J:Type}(N n:Nat)(V:St)(l:aa)(K:KT J):Option J:=ak Gz bm f40B N (bf 99 (bu Try.f40) n) .n V (ax (some l) K)
def f40t0 N a b (K:KT J):f40j N 1 (f40s0 a b) f40lE K =
 bK.Z0 N a b (λc d e f=>K .ret (f40s1 c d e f)):=by kernel_rfl
def f40ok(h:bK.Spec):aG Try.prog 40 uL :=
 bQ Try.func40 bv f40GOk (λN X K=>f40t0 N X.1 X.2.1 K) (by kernel_rfl) λX hb hp=>by obtain⟨a,b,_⟩:=X;obtain⟨N,h⟩:=h a b hb.1;exact⟨N,Eq.trans (by kernel_rfl) (h N (Nat.le_refl N))⟩
def GA:aG Try.prog 40 uL:=f40ok bK.ok
end Go.Fw
