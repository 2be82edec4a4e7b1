/- The ties: the program's text comes to the plain functions. Nothing is assumed. -/
import Derived.Test.YtakkbbpdfmkbnaaFwc
import Derived.Test.YtakkbbpdfmkbnaaFwd
import Derived.Test.YtakkbbpdfmkbnaaProg
import Derived.Test.YtakkbbpdfmkbnaaPuFnGreena
import Derived.Test.YtakkbbpdfmkbnaaPuFnGreenb
noncomputable section
set_option linter.defProp false
set_option linter.unusedSectionVars false
set_option linter.unusedVariables false
set_option linter.unusedSimpArgs false
set_option maxRecDepth 100000
namespace Go.Fw
open Go.Proofs
def be:aY:=oK [
 (2,⟨false,.int .i64,[.int .i64 0],[],none,8⟩),
 (3,⟨false,.int .i64,[.int .i64 0],[],none,8⟩),
 (4,⟨false,.bool,[.bool false],[],none,1⟩),
 (5,⟨false,.int .u8,[.int .u8 0],[],none,1⟩),
 (6,⟨false,.int .u8,[.int .u8 0],[],none,1⟩),
 (7,⟨true,.pair (.int .i64) (.pair (.int .i64) (.pair (.bool) (.int .u8))),[.int .i64 0,.int .i64 0,.bool false,.int .u8 0],[(0,1,false),(1,1,false),(2,1,false),(3,1,false)],none,24⟩),
 (8,⟨true,.pair (.int .i64) (.pair (.int .i64) (.pair (.bool) (.int .u8))),[.int .i64 0,.int .i64 0,.bool false,.int .u8 0],[(0,1,false),(1,1,false),(2,1,false),(3,1,false)],none,24⟩),
 (9,⟨false,.str,[.str ByteArray.empty],[],none,16⟩),
 (10,⟨false,.str,[.str ByteArray.empty],[],none,16⟩),
 (11,⟨false,.str,[.str ByteArray.empty],[],none,16⟩),
 (12,⟨false,.int .u64,[.int .u64 0],[],none,8⟩),
 (13,⟨true,.pair (.str) (.int .u64),[.str ByteArray.empty,.int .u64 0],[(0,1,false),(1,1,false)],none,24⟩),
 (14,⟨true,.pair (.str) (.int .u64),[.str ByteArray.empty,.int .u64 0],[(0,1,false),(1,1,false)],none,24⟩),
 (20,⟨false,.err,[.err false],[],none,16⟩),
 (21,⟨false,.int .i32,[.int .i32 0],[],none,4⟩),
 (22,⟨false,.sl 5 (.int .u8),[.nil],[],some 5,24⟩),
 (24,⟨false,.sl 3 (.int .i64),[.nil],[],some 3,24⟩),
 (25,⟨true,.pair (.int .i64) (.pair (.int .i64) (.sl 3 (.int .i64))),[.int .i64 0,.int .i64 0,.nil],[(0,1,false),(1,1,false),(2,1,false)],none,40⟩),
 (26,⟨true,.pair (.int .i64) (.pair (.int .i64) (.sl 3 (.int .i64))),[.int .i64 0,.int .i64 0,.nil],[(0,1,false),(1,1,false),(2,1,false)],none,40⟩),
 (29,⟨false,.sl 24 (.sl 3 (.int .i64)),[.nil],[],some 24,24⟩),
 (41,⟨true,.pair (.int .i64) (.pair (.int .i64) (.sl 3 (.int .i64))),[.int .i64 0,.int .i64 0,.nil],[(0,1,false),(1,1,false),(2,1,false)],none,40⟩),
 (57,⟨false,.sl 89 (.pair (.int .i64) (.sl 103 (.pair (.sl 3 (.int .i64)) (.int .i64)))),[.nil],[],some 89,24⟩),
 (58,⟨true,.pair (.pair (.int .i64) (.pair (.int .i64) (.sl 3 (.int .i64)))) (.sl 89 (.pair (.int .i64) (.sl 103 (.pair (.sl 3 (.int .i64)) (.int .i64))))),[.int .i64 0,.int .i64 0,.nil,.nil],[(0,3,true),(3,1,false)],none,64⟩),
 (59,⟨true,.pair (.pair (.int .i64) (.pair (.int .i64) (.sl 3 (.int .i64)))) (.sl 89 (.pair (.int .i64) (.sl 103 (.pair (.sl 3 (.int .i64)) (.int .i64))))),[.int .i64 0,.int .i64 0,.nil,.nil],[(0,3,true),(3,1,false)],none,64⟩),
 (69,⟨false,.sl 26 (.pair (.int .i64) (.pair (.int .i64) (.sl 3 (.int .i64)))),[.nil],[],some 26,24⟩),
 (77,⟨true,.pair (.sl 24 (.sl 3 (.int .i64))) (.bool),[.nil,.bool false],[(0,1,false),(1,1,false)],none,32⟩),
 (78,⟨true,.pair (.sl 24 (.sl 3 (.int .i64))) (.bool),[.nil,.bool false],[(0,1,false),(1,1,false)],none,32⟩),
 (87,⟨false,.sl 103 (.pair (.sl 3 (.int .i64)) (.int .i64)),[.nil],[],some 103,24⟩),
 (88,⟨true,.pair (.int .i64) (.sl 103 (.pair (.sl 3 (.int .i64)) (.int .i64))),[.int .i64 0,.nil],[(0,1,false),(1,1,false)],none,32⟩),
 (89,⟨true,.pair (.int .i64) (.sl 103 (.pair (.sl 3 (.int .i64)) (.int .i64))),[.int .i64 0,.nil],[(0,1,false),(1,1,false)],none,32⟩),
 (93,⟨true,.pair (.sl 5 (.int .u8)) (.pair (.int .i64) (.int .i64)),[.nil,.int .i64 0,.int .i64 0],[(0,1,false),(1,1,false),(2,1,false)],none,40⟩),
 (94,⟨true,.pair (.sl 5 (.int .u8)) (.pair (.int .i64) (.int .i64)),[.nil,.int .i64 0,.int .i64 0],[(0,1,false),(1,1,false),(2,1,false)],none,40⟩),
 (102,⟨true,.pair (.sl 3 (.int .i64)) (.int .i64),[.nil,.int .i64 0],[(0,1,false),(1,1,false)],none,32⟩),
 (103,⟨true,.pair (.sl 3 (.int .i64)) (.int .i64),[.nil,.int .i64 0],[(0,1,false),(1,1,false)],none,32⟩),
 (109,⟨false,.sl 9 (.str),[.nil],[],some 9,24⟩),
 (118,⟨false,.int .u64,[.int .u64 0],[],none,8⟩),
 (127,⟨false,.int .u32,[.int .u32 0],[],none,4⟩),
 (128,⟨false,.int .u8,[.int .u8 0],[],none,1⟩),
 (129,⟨false,.int .u8,[.int .u8 0],[],none,1⟩),
 (132,⟨false,.int .i32,[.int .i32 0],[],none,4⟩),
 (133,⟨false,.int .i32,[.int .i32 0],[],none,4⟩)]
def bg:aT Try.prog be:=aT.of (by kernel_rfl)
instance:Inv Try.prog:=Inv.triv _
end Go.Fw
namespace Go.Fw
variable {J : Type}
open Go.Proofs
def AA:bv:=⟨[⟨.sl 5 (.int .u8),false,false⟩],[⟨.bool,false,false⟩]⟩
def vq:aW:=⟨AA,none,λX=>((),((iH.g X.1),()))⟩
def AB:Gm:=ba
def IN:aq Try.prog AB:=aq.nil
def zIO:aa:=⟨[],[],[],[],[]⟩
def IP(a:List Int):St:=bz AA.ps (a,())
def IQ(a:Bool):St:=ah [(2,xB a)] [] []
def IR:aa:=⟨[2],[],[],[],[]⟩
def IS:Nat->Option aa:=ay [(1000000,IR)]
abbrev IT{J:Type}(N n:Nat)(V:St)(l:aa)(K:KT J):Option J:=ak AB be IS N (a6 99 (bf Try.f13) n) .n V (av (some l) K)
def IU N a (K:KT J):IT N 1 (IP a) zIO K =
 iH.Z0 N a (λb=>K .ret (IQ b)):=by kernel_rfl
def IV(h:iH.Spec):aB Try.prog 13 vq :=
 bI Try.func13 bg IN (λN X K=>IU N X.1 K) (by kernel_rfl) λX hb hp=>by obtain⟨a,_⟩:=X;obtain⟨N,h⟩:=h a hb.1;exact⟨N,Eq.trans (by kernel_rfl) (h N (Nat.le_refl N))⟩
def IW:aB Try.prog 13 vq:=IV iH.ok
def IX:cO:=⟨94,[(5,.int .u8)],.pair (.int .i64) (.int .i64)⟩
def AC:List PT:=[⟨.sl 5 (.int .u8),false,false⟩]
def vr:gw:=⟨IX,AC,none,λX=>(cd.g X.1)⟩
def AD:Gm:=ba
def IY:aq Try.prog AD:=aq.nil
def IZ:aa:=⟨[],[],[],[],[]⟩
def I0(u0:Value)(a:List Int):St:=kB 5 (.int .u8) (AC.drop 1) u0 (a,())
def AE(u0:Value)(a:List Int):St:=ah [(0,.c (.bor u0 5 (.int .u8) a))] [] []
def I1:aa:=⟨[0],[],[],[],[]⟩
def kK(u0:Value)(a:List Int)(b:Int):St:=ah [(0,.c (.bor u0 5 (.int .u8) a)),(3,xi b)] [] []
def qE:aa:=⟨[0,3],[],[],[],[]⟩
def qF(u0:Value)(a:List Int)(b d:Int):St:=ah [(0,.c (.bor u0 5 (.int .u8) a)),(3,xi b),(4,xi d)] [] []
def AF:aa:=⟨[0,3,4],[],[],[],[]⟩
def I9(u0:Value)(a:List Int)(b c:Int):St:=ah [(2,xb 31)] [(31,(94,[.bor u0 5 (.int .u8) a,yi b,yi c]))] []
def Ja:aa:=⟨[2],[31],[],[],[]⟩
def Jb:Nat->Option aa:=ay [(0,qE),(1000000,Ja)]
abbrev nS{J:Type}(N n:Nat)(V:St)(l:aa)(K:KT J):Option J:=ak AD be Jb N (a6 99 (bf Try.f54) n) .n V (av (some l) K)
def Jc N u0 a (K:KT J):nS N 2 (I0 u0 a) I1 K =
 cd.Z1 N a (λa=>K .nrm (AE u0 a)):=by kernel_rfl
def Je N u0 a (K:KT J):nS N 5 (AE u0 a) qE K =
 cd.Z3 N a (λa b=>K .nrm (kK u0 a b)):=by kernel_rfl
def Jf N u0 a b (K:KT J):nS N 19 (kK u0 a b) AF K =
 cd.Z6 N a b (λa b c=>K .nrm (qF u0 a b c)):=by kernel_rfl
def Jg N u0 a b c (K:KT J):nS N 75 (qF u0 a b c) AF K =
 cd.Z9 N a b c (λa b c=>K .nrm (qF u0 a b c)) (λa b=>K (.exit 0) (kK u0 a b)):=by kernel_rfl
def Jh N u0 (K:KT J):=jh K (cd.Z8L N (λa b=>K (.exit 0) (kK u0 a b))) (λa b c k=>cd.Z9 N a b c k (λa b=>K (.exit 0) (kK u0 a b))) (λF a b c=>Jg N u0 a b c _) (by kernel_rfl)
def Ji N u0 a b c (K:KT J):=vL (qF u0 a b c) (Jh N u0 (jK qE K) N a b c) (by kernel_rfl)
def Jj N u0 a b c (K:KT J):=vB 0 qE K (cd.Z7 N a b c (λa b=>K .nrm (kK u0 a b))) (Ji N u0 a b c _) (by kernel_rfl)
def Jk N u0 a b (K:KT J):=vQ (λk=>cd.Z6 N a b k) (Jf N u0 a b _) (dP λa b c=>Jj N u0 a b c K)
def Jl N u0 a b (K:KT J):nS N 15 (kK u0 a b) IZ K =
 cd.Z10 N a b (λc d e=>K .ret (I9 u0 c d e)):=by kernel_rfl
def Jm N u0 a b (K:KT J):=vQ (λk=>cd.Z5 N a b k) (Jk N u0 a b _) (eH λa b=>Jl N u0 a b K)
def Jn N u0 a (K:KT J):=vQ (λk=>cd.Z3 N a k) (Je N u0 a _) (eH λa b=>Jm N u0 a b K)
def Jo N u0 a (K:KT J):=vQ (λk=>cd.Z1 N a k) (Jc N u0 a _) (funext λa=>Jn N u0 a K)
def Jp(h:cd.Spec):iT Try.prog 54 vr :=
 GQ Try.func54 bg IY (λN u X K=>Jo N u X.1 K) (by kernel_rfl) λu0 X hb2 hp=>by obtain⟨a,_⟩:=X;obtain⟨N,h⟩:=h [u0] a hb2.1;exact⟨N,Eq.trans (by kernel_rfl) (h N (Nat.le_refl N))⟩
def Jq:iT Try.prog 54 vr:=Jp cd.ok
def AG:cO:=⟨94,[(5,.int .u8)],.pair (.int .i64) (.int .i64)⟩
def AH:List PT:=[]
def Jr:List PT:=[⟨.int .i64,false,false⟩]
def vt:dM:=⟨AG,AH,true,Jr,(some λX=>aK.P X.1.1.1 X.1.2),λX=>((aK.g X.1.1.1 X.1.2).1,((),((aK.g X.1.1.1 X.1.2).2,())))⟩
def AI:Gm:=ba
def Js:aq Try.prog AI:=aq.nil
def Jt:aa:=⟨[],[],[],[],[]⟩
def Ju(u0:Value)(b0:List Int)(r0:Int×Int):St:=dr AG AH [u0] (((b0,()),r0),())
def Jv(u0:Value)(a:Int)(b:List Int)(c d:Int):St:=ah [(2,xi a),(100000,xb 100000)] [(100000,(94,[.bor u0 5 (.int .u8) b,yi c,yi d]))] []
def Jw:aa:=⟨[2,100000],[100000],[],[],[]⟩
def Jx:Nat->Option aa:=ay [(1000000,Jw)]
abbrev Jy{J:Type}(N n:Nat)(V:St)(l:aa)(K:KT J):Option J:=ak AI be Jx N (a6 99 (bf Try.f112) n) .n V (av (some l) K)
def Jz N u0 b0 r0 (K:KT J):Jy N 1 (Ju u0 b0 r0) Jt K =
 aK.Z0 N b0 r0 (λa b c d=>K .ret (Jv u0 a b c d)):=by kernel_rfl
def JA(h:aK.Spec):db Try.prog 112 vt :=
 ir Try.func112 bg Js (λN u X K=>Jz N u X.1.1.1 X.1.2 K) (by kernel_rfl) λu0 X hb1 hb2 hp=>by obtain⟨⟨⟨b0,_⟩,r0⟩,_⟩:=X;obtain⟨N,h⟩:=h [u0] b0 r0 hb1.1 hp;exact⟨N,Eq.trans (by kernel_rfl) (h N (Nat.le_refl N))⟩
def JB:db Try.prog 112 vt:=JA aK.ok
def AJ:cO:=⟨94,[(5,.int .u8)],.pair (.int .i64) (.int .i64)⟩
def AK:List PT:=[⟨.int .i64,false,false⟩]
def JC:List PT:=[⟨.int .i64,false,false⟩]
def kM:dM:=⟨AJ,AK,true,JC,(some λX=>ao.P X.1.1.1 X.1.2 X.2.1),λX=>((ao.g X.1.1.1 X.1.2 X.2.1).1,((),((ao.g X.1.1.1 X.1.2 X.2.1).2,())))⟩
def AL:Gm:=addV ba 112 vt
def JD:aq Try.prog AL:=(aq.nil).addV JB (by kernel_rfl)
def JE:aa:=⟨[],[],[],[],[]⟩
def JF(u0:Value)(b0:List Int)(r0:Int×Int)(a:Int):St:=dr AJ AK [u0] (((b0,()),r0),(a,()))
def JG(u0:Value)(a:Int)(b:List Int)(c d:Int):St:=ah [(4,xi a),(100000,xb 100000)] [(100000,(94,[.bor u0 5 (.int .u8) b,yi c,yi d]))] []
def JH:aa:=⟨[4,100000],[100000],[],[],[]⟩
def JI:Nat->Option aa:=ay [(1000000,JH)]
abbrev JJ{J:Type}(N n:Nat)(V:St)(l:aa)(K:KT J):Option J:=ak AL be JI N (a6 99 (bf Try.f94) n) .n V (av (some l) K)
def JK N u0 b0 r0 a (K:KT J):JJ N 1 (JF u0 b0 r0 a) JE K =
 ao.Z0 N b0 r0 a (λb c d e=>K .ret (JG u0 b c d e)):=by kernel_rfl
def JL(h:ao.Spec):db Try.prog 94 kM :=
 ir Try.func94 bg JD (λN u X K=>JK N u X.1.1.1 X.1.2 X.2.1 K) (by kernel_rfl) λu0 X hb1 hb2 hp=>by obtain⟨⟨⟨b0,_⟩,r0⟩,a,_⟩:=X;obtain⟨N,h⟩:=h [u0] b0 r0 a hb1.1 hp;exact⟨N,Eq.trans (by kernel_rfl) (h N (Nat.le_refl N))⟩
def nT:db Try.prog 94 kM:=JL ao.ok
def AM:bv:=⟨[⟨.int .i64,false,false⟩],[⟨.pair (.int .i64) (.pair (.int .i64) (.sl 3 (.int .i64))),true,false⟩]⟩
def vu:aW:=⟨AM,(some λX=>aC.P X.1),λX=>((),((aC.g X.1),()))⟩
def AN:Gm:=ba
def JM:aq Try.prog AN:=aq.nil
def JN:aa:=⟨[],[],[],[],[]⟩
def JO(a:Int):St:=bz AM.ps (a,())
def JP(a:LI)(b c:Int):St:=ah [(2,xb 2)] [(2,(26,[yi b,yi c,.own 20000130]))] [(20000130,(⟨3,.int .i64,a,true,false⟩:ac))]
def JQ:aa:=⟨[2],[2],[],[],[(⟨true,2,2⟩,20000130)]⟩
def JR:Nat->Option aa:=ay [(1000000,JQ)]
abbrev JS{J:Type}(N n:Nat)(V:St)(l:aa)(K:KT J):Option J:=ak AN be JR N (a6 99 (bf Try.f108) n) .n V (av (some l) K)
def JT N a (K:KT J):JS N 1 (JO a) JN K =
 aC.Z0 N a (λb c d=>K .ret (JP b c d)):=by kernel_rfl
def JU(h:aC.Spec):aB Try.prog 108 vu :=
 bI Try.func108 bg JM (λN X K=>JT N X.1 K) (by kernel_rfl) λX hb hp=>by obtain⟨a,_⟩:=X;obtain⟨N,h⟩:=h a hp;exact⟨N,Eq.trans (by kernel_rfl) (h N (Nat.le_refl N))⟩
def JV:aB Try.prog 108 vu:=JU aC.ok
def AO:cO:=⟨94,[(5,.int .u8)],.pair (.int .i64) (.int .i64)⟩
def AP:List PT:=[⟨.int .i64,false,false⟩]
def JW:List PT:=[⟨.bool,false,false⟩]
def vv:dM:=⟨AO,AP,true,JW,(some λX=>cE.P X.1.1.1 X.1.2 X.2.1),λX=>((cE.g X.1.1.1 X.1.2 X.2.1).1,((),((cE.g X.1.1.1 X.1.2 X.2.1).2,())))⟩
def AQ:Gm:=addV ba 94 kM
def JX:aq Try.prog AQ:=(aq.nil).addV nT (by kernel_rfl)
def JY:aa:=⟨[],[],[],[],[]⟩
def JZ(u0:Value)(b0:List Int)(r0:Int×Int)(a:Int):St:=dr AO AP [u0] (((b0,()),r0),(a,()))
def J0(u0:Value)(a:Bool)(b:List Int)(c d:Int):St:=ah [(4,xB a),(100000,xb 100000)] [(100000,(94,[.bor u0 5 (.int .u8) b,yi c,yi d]))] []
def J1:aa:=⟨[4,100000],[100000],[],[],[]⟩
def J2:Nat->Option aa:=ay [(1000000,J1)]
abbrev J3{J:Type}(N n:Nat)(V:St)(l:aa)(K:KT J):Option J:=ak AQ be J2 N (a6 99 (bf Try.f120) n) .n V (av (some l) K)
def J4 N u0 b0 r0 a (K:KT J):J3 N 1 (JZ u0 b0 r0 a) JY K =
 cE.Z0 N b0 r0 a (λb c d e=>K .ret (J0 u0 b c d e)):=by kernel_rfl
def J5(h:cE.Spec):db Try.prog 120 vv :=
 ir Try.func120 bg JX (λN u X K=>J4 N u X.1.1.1 X.1.2 X.2.1 K) (by kernel_rfl) λu0 X hb1 hb2 hp=>by obtain⟨⟨⟨b0,_⟩,r0⟩,a,_⟩:=X;obtain⟨N,h⟩:=h [u0] b0 r0 a hb1.1 hp;exact⟨N,Eq.trans (by kernel_rfl) (h N (Nat.le_refl N))⟩
def J6:db Try.prog 120 vv:=J5 cE.ok
def AR:cO:=⟨94,[(5,.int .u8)],.pair (.int .i64) (.int .i64)⟩
def AS:List PT:=[⟨.pair (.int .i64) (.pair (.int .i64) (.sl 3 (.int .i64))),true,true⟩,⟨.int .i64,false,false⟩,⟨.int .i64,false,false⟩,⟨.int .i64,false,false⟩,⟨.int .i64,false,false⟩]
def J7:List PT:=[]
def vw:dM:=⟨AR,AS,true,J7,(some λX=>aS.P X.1.1.1 X.1.2 X.2.1 X.2.2.1 X.2.2.2.1 X.2.2.2.2.1 X.2.2.2.2.2.1),λX=>((aS.g X.1.1.1 X.1.2 X.2.1 X.2.2.1 X.2.2.2.1 X.2.2.2.2.1 X.2.2.2.2.2.1).1,((aS.g X.1.1.1 X.1.2 X.2.1 X.2.2.1 X.2.2.2.1 X.2.2.2.2.1 X.2.2.2.2.2.1).2,()))⟩
def AT:Gm:=addV ba 120 vv
def J8:aq Try.prog AT:=(aq.nil).addV J6 (by kernel_rfl)
def J9(u0:Value)(b0:List Int)(r0:Int×Int)(a:MT)(b c d e:Int):St:=dr AR AS [u0] (((b0,()),r0),(a,(b,(c,(d,(e,()))))))
def Ka(u0:Value)(a:LI)(b c:Int)(d:List Int)(e f:Int):St:=ah [(100000,xb 100000),(100001,.agg [yi b,yi c,.own 7400066])] [(100000,(94,[.bor u0 5 (.int .u8) d,yi e,yi f]))] [(7400066,(⟨3,.int .i64,a,true,false⟩:ac))]
def Kb:aa:=⟨[100000,100001],[100000],[],[],[(⟨false,100001,2⟩,7400066)]⟩
def Kc:Nat->Option aa:=ay []
abbrev Kd{J:Type}(N n:Nat)(V:St)(l:aa)(K:KT J):Option J:=ak AT be Kc N (a6 99 (bf Try.f109) n) .n V (av (some l) K)
def Ke N u0 b0 r0 a b c d e (K:KT J):Kd N 1 (J9 u0 b0 r0 a b c d e) Kb K =
 aS.Z0 N b0 r0 a b c d e (λf g h i j l=>K .nrm (Ka u0 f g h i j l)):=by kernel_rfl
def Kf(h:aS.Spec):db Try.prog 109 vw :=
 ir Try.func109 bg J8 (λN u X K=>Ke N u X.1.1.1 X.1.2 X.2.1 X.2.2.1 X.2.2.2.1 X.2.2.2.2.1 X.2.2.2.2.2.1 K) (by kernel_rfl) λu0 X hb1 hb2 hp=>by obtain⟨⟨⟨b0,_⟩,r0⟩,a,b,c,d,e,_⟩:=X;obtain⟨N,h⟩:=h [u0] b0 r0 a b c d e hb1.1 hb2.1 hp;exact⟨N,Eq.trans (by kernel_rfl) (h N (Nat.le_refl N))⟩
def Kg:db Try.prog 109 vw:=Kf aS.ok
def AU:bv:=⟨[⟨.int .i64,false,false⟩],[⟨.str,false,false⟩]⟩
def vz:aW:=⟨AU,(some λX=>bF.P X.1),λX=>((),((bF.g X.1),()))⟩
def AV:Gm:=ba
def Kh:aq Try.prog AV:=aq.nil
def Ki:aa:=⟨[],[],[],[],[]⟩
def Kj(a:Int):St:=bz AU.ps (a,())
def AW(a:Int):St:=ah [(0,xi a)] [] []
def Kk:aa:=⟨[0],[],[],[],[]⟩
def kN(a:List Int)(b:Int):St:=ah [(0,xi b),(3,xo 1000192)] [] [(1000192,(⟨5,.int .u8,a,true,false⟩:ac))]
def qG:aa:=⟨[0,3],[],[],[],[(⟨false,3,0⟩,1000192)]⟩
def qH(a:List Int)(b c:Int):St:=ah [(0,xi b),(3,xo 1000192),(4,xi c)] [] [(1000192,(⟨5,.int .u8,a,true,false⟩:ac))]
def AX:aa:=⟨[0,3,4],[],[],[],[(⟨false,3,0⟩,1000192)]⟩
def AY(a b:List Int)(c:Int):St:=ah [(0,xi c),(3,xo 1000192),(6,xo 1000384)] [] [(1000192,(⟨5,.int .u8,a,true,false⟩:ac)),(1000384,(⟨5,.int .u8,b,true,false⟩:ac))]
def Kl:aa:=⟨[0,3,6],[],[],[],[(⟨false,3,0⟩,1000192),(⟨false,6,0⟩,1000384)]⟩
def AZ(a b:List Int):St:=ah [(3,xo 1000192),(6,xo 1000384)] [] [(1000192,(⟨5,.int .u8,a,true,false⟩:ac)),(1000384,(⟨5,.int .u8,b,true,false⟩:ac))]
def Km:aa:=⟨[3,6],[],[],[],[(⟨false,3,0⟩,1000192),(⟨false,6,0⟩,1000384)]⟩
def qI(a b:List Int)(c:Int):St:=ah [(3,xo 1000192),(6,xo 1000384),(7,xi c)] [] [(1000192,(⟨5,.int .u8,a,true,false⟩:ac)),(1000384,(⟨5,.int .u8,b,true,false⟩:ac))]
def A3:aa:=⟨[3,6,7],[],[],[],[(⟨false,3,0⟩,1000192),(⟨false,6,0⟩,1000384)]⟩
def nU(a:List Int):St:=ah [(6,xo 1000384)] [] [(1000384,(⟨5,.int .u8,a,true,false⟩:ac))]
def vA:aa:=⟨[6],[],[],[],[(⟨false,6,0⟩,1000384)]⟩
def Kn(a:ByteArray):St:=ah [(2,.c (.str a))] [] []
def Ko:aa:=⟨[2],[],[],[],[]⟩
def Kp:Nat->Option aa:=ay [(0,qG),(2,vA),(1000000,Ko)]
abbrev iz{J:Type}(N n:Nat)(V:St)(l:aa)(K:KT J):Option J:=ak AV be Kp N (a6 99 (bf Try.f110) n) .n V (av (some l) K)
def Kq N a (K:KT J):iz N 2 (Kj a) Kk K =
 bF.Z1 N a (λa=>K .nrm (AW a)):=by kernel_rfl
def Kr N a (K:KT J):iz N 5 (AW a) qG K =
 bF.Z3 N a (λb a=>K .nrm (kN b a)):=by kernel_rfl
def Ks N a b (K:KT J):iz N 11 (kN a b) AX K =
 bF.Z5 N a b (λa b c=>K .nrm (qH a b c)):=by kernel_rfl
def Kt N a b c (K:KT J):iz N 71 (qH a b c) AX K =
 bF.Z9 N a b c (λa b c=>K .nrm (qH a b c)) (λa b=>K (.exit 0) (kN a b)):=by kernel_rfl
def Ku N (K:KT J):=jh K (bF.Z8L N (λa b=>K (.exit 0) (kN a b))) (λa b c k=>bF.Z9 N a b c k (λa b=>K (.exit 0) (kN a b))) (λF a b c=>Kt N a b c _) (by kernel_rfl)
def Kv N a b c (K:KT J):=vL (qH a b c) (Ku N (jK qG K) N a b c) (by kernel_rfl)
def Kw N a b c (K:KT J):=vB 0 qG K (bF.Z7 N a b c (λa b=>K .nrm (kN a b))) (Kv N a b c _) (by kernel_rfl)
def Kx N a b (K:KT J):iz N 47 (kN a b) Kl K =
 bF.Z11 N a b (λa c b=>K .nrm (AY a c b)):=by kernel_rfl
def Ky N a b c (K:KT J):iz N 95 (AY a b c) Km K =
 bF.Z13 N a b c (λa b=>K .nrm (AZ a b)):=by kernel_rfl
def Kz N a b (K:KT J):iz N 319 (AZ a b) A3 K =
 bF.Z16 N a b (λa b c=>K .nrm (qI a b c)):=by kernel_rfl
def KA N b a c (K:KT J):iz N 1215 (qI b a c) A3 K =
 bF.Z19 N b a c (λb a c=>K .nrm (qI b a c)) (λa=>K (.exit 2) (nU a)):=by kernel_rfl
def KB N (K:KT J):=jh K (bF.Z18L N (λa=>K (.exit 2) (nU a))) (λb a c k=>bF.Z19 N b a c k (λa=>K (.exit 2) (nU a))) (λF b a c=>KA N b a c _) (by kernel_rfl)
def KC N a b c (K:KT J):=vL (qI a b c) (KB N (jK vA K) N a b c) (by kernel_rfl)
def KD N b a c (K:KT J):=vB 2 vA K (bF.Z17 N b a c (λa=>K .nrm (nU a))) (KC N b a c _) (by kernel_rfl)
def KE N a b (K:KT J):=vQ (λk=>bF.Z16 N a b k) (Kz N a b _) (dP λa b c=>KD N a b c K)
def KF N a (K:KT J):iz N 255 (nU a) Ki K =
 bF.Z20 N a (λb=>K .ret (Kn b)):=by kernel_rfl
def KG N b a (K:KT J):=vQ (λk=>bF.Z15 N b a k) (KE N b a _) (funext λa=>KF N a K)
def KH N a b c (K:KT J):=vQ (λk=>bF.Z13 N a b c k) (Ky N a b c _) (eH λa b=>KG N a b K)
def KI N a b (K:KT J):=vQ (λk=>bF.Z11 N a b k) (Kx N a b _) (dP λa c b=>KH N a c b K)
def KJ N a b c (K:KT J):=vQ (λk=>bF.Z7 N a b c k) (Kw N a b c _) (eH λa b=>KI N a b K)
def KK N a b (K:KT J):=vQ (λk=>bF.Z5 N a b k) (Ks N a b _) (dP λa b c=>KJ N a b c K)
def KL N a (K:KT J):=vQ (λk=>bF.Z3 N a k) (Kr N a _) (eH λb a=>KK N b a K)
def KM N a (K:KT J):=vQ (λk=>bF.Z1 N a k) (Kq N a _) (funext λa=>KL N a K)
def KN(h:bF.Spec):aB Try.prog 110 vz :=
 bI Try.func110 bg Kh (λN X K=>KM N X.1 K) (by kernel_rfl) λX hb hp=>by obtain⟨a,_⟩:=X;obtain⟨N,h⟩:=h a hp;exact⟨N,Eq.trans (by kernel_rfl) (h N (Nat.le_refl N))⟩
def KO:aB Try.prog 110 vz:=KN bF.ok
def A4:cO:=⟨94,[(5,.int .u8)],.pair (.int .i64) (.int .i64)⟩
def A5:List PT:=[⟨.int .i64,false,false⟩]
def KP:List PT:=[⟨.pair (.int .i64) (.pair (.int .i64) (.sl 3 (.int .i64))),true,false⟩,⟨.str,false,false⟩]
def vC:dM:=⟨A4,A5,true,KP,(some λX=>spec_dTree.P X.1.1.1 X.1.2 X.2.1),λX=>((spec_dTree.g X.1.1.1 X.1.2 X.2.1).1,((),((spec_dTree.g X.1.1.1 X.1.2 X.2.1).2.1,((spec_dTree.g X.1.1.1 X.1.2 X.2.1).2.2,()))))⟩
def A6:Gm:=aR (addV (aR (addV ba 94 kM) 108 vu) 109 vw) 110 vz
def KQ:aq Try.prog A6:=((((aq.nil).addV nT (by kernel_rfl)).add JV (by kernel_rfl)).addV Kg (by kernel_rfl)).add KO (by kernel_rfl)
def KR:aa:=⟨[],[],[],[],[]⟩
def KS(u0:Value)(b0:List Int)(r0:Int×Int)(a:Int):St:=dr A4 A5 [u0] (((b0,()),r0),(a,()))
def A7(u0:Value)(a:Int)(b:List Int)(c d e f:Int):St:=ah [(0,xb 100000),(1,xi a),(4,xb 4),(100000,xb 100000)] [(100000,(94,[.bor u0 5 (.int .u8) b,yi c,yi d])),(4,(26,[yi e,yi f,.nil]))] []
def KU:aa:=⟨[0,1,4,100000],[100000,4],[],[],[]⟩
def A8(u0:Value)(a b:Int)(c:List Int)(d e f g:Int):St:=ah [(0,xb 100000),(1,xi a),(4,xb 4),(6,xi b),(100000,xb 100000)] [(100000,(94,[.bor u0 5 (.int .u8) c,yi d,yi e])),(4,(26,[yi f,yi g,.nil]))] []
def KV:aa:=⟨[0,1,4,6,100000],[100000,4],[],[],[]⟩
def qJ(u0:Value)(a b c:Int)(d:List Int)(e f g h:Int):St:=ah [(0,xb 100000),(1,xi a),(4,xb 4),(6,xi b),(7,xi c),(100000,xb 100000)] [(100000,(94,[.bor u0 5 (.int .u8) d,yi e,yi f])),(4,(26,[yi g,yi h,.nil]))] []
def A9:aa:=⟨[0,1,4,6,7,100000],[100000,4],[],[],[]⟩
def Ba(u0:Value)(a b:Int)(c:List Int)(d e f g:Int):St:=ah [(0,xb 100000),(4,xb 4),(6,xi a),(7,xi b),(100000,xb 100000)] [(100000,(94,[.bor u0 5 (.int .u8) c,yi d,yi e])),(4,(26,[yi f,yi g,.nil]))] []
def KW:aa:=⟨[0,4,6,7,100000],[100000,4],[],[],[]⟩
def Bb(u0:Value)(a b c:Int)(d:List Int)(e f g h:Int):St:=ah [(0,xb 100000),(4,xb 4),(6,xi a),(7,xi b),(64,xi c),(100000,xb 100000)] [(100000,(94,[.bor u0 5 (.int .u8) d,yi e,yi f])),(4,(26,[yi g,yi h,.nil]))] []
def KX:aa:=⟨[0,4,6,7,64,100000],[100000,4],[],[],[]⟩
def vD(u0:Value)(a b c:Int)(d:Bool)(e:List Int)(f g h i:Int):St:=ah [(0,xb 100000),(4,xb 4),(6,xi a),(7,xi b),(64,xi c),(65,xB d),(100000,xb 100000)] [(100000,(94,[.bor u0 5 (.int .u8) e,yi f,yi g])),(4,(26,[yi h,yi i,.nil]))] []
def KY:aa:=⟨[0,4,6,7,64,65,100000],[100000,4],[],[],[]⟩
def kO(u0:Value)(a:LI)(b c:Int)(d:List Int)(e f g h i j:Int):St:=ah [(0,xb 100000),(4,xb 4),(6,xi b),(7,xi c),(8,xb 8),(100000,xb 100000)] [(100000,(94,[.bor u0 5 (.int .u8) d,yi e,yi f])),(4,(26,[yi g,yi h,.nil])),(8,(26,[yi i,yi j,.own 20000514]))] [(20000514,(⟨3,.int .i64,a,true,false⟩:ac))]
def qL:aa:=⟨[0,4,6,7,8,100000],[100000,4,8],[],[],[(⟨true,8,2⟩,20000514)]⟩
def qM(u0:Value)(a:LI)(b c d:Int)(e:List Int)(f g h i j l:Int):St:=ah [(0,xb 100000),(4,xb 4),(6,xi b),(7,xi c),(8,xb 8),(9,xi d),(100000,xb 100000)] [(100000,(94,[.bor u0 5 (.int .u8) e,yi f,yi g])),(4,(26,[yi h,yi i,.nil])),(8,(26,[yi j,yi l,.own 20000514]))] [(20000514,(⟨3,.int .i64,a,true,false⟩:ac))]
def Bc:aa:=⟨[0,4,6,7,8,9,100000],[100000,4,8],[],[],[(⟨true,8,2⟩,20000514)]⟩
def vE(u0:Value)(a b:Int)(c:Bool)(d:List Int)(e f g h:Int):St:=ah [(0,xb 100000),(4,xb 4),(7,xi a),(64,xi b),(110,xB c),(100000,xb 100000)] [(100000,(94,[.bor u0 5 (.int .u8) d,yi e,yi f])),(4,(26,[yi g,yi h,.nil]))] []
def KZ:aa:=⟨[0,4,7,64,110,100000],[100000,4],[],[],[]⟩
def vF(u0:Value)(a b:Int)(c:Bool)(d:List Int)(e f g h:Int):St:=ah [(0,xb 100000),(4,xb 4),(7,xi a),(64,xi b),(119,xB c),(100000,xb 100000)] [(100000,(94,[.bor u0 5 (.int .u8) d,yi e,yi f])),(4,(26,[yi g,yi h,.nil]))] []
def K0:aa:=⟨[0,4,7,64,119,100000],[100000,4],[],[],[]⟩
def vG(u0:Value)(a b:Int)(c:Bool)(d:List Int)(e f g h:Int):St:=ah [(0,xb 100000),(4,xb 4),(7,xi a),(64,xi b),(126,xB c),(100000,xb 100000)] [(100000,(94,[.bor u0 5 (.int .u8) d,yi e,yi f])),(4,(26,[yi g,yi h,.nil]))] []
def K1:aa:=⟨[0,4,7,64,126,100000],[100000,4],[],[],[]⟩
def Bd(u0:Value)(a:LI)(b:List Int)(c d e f g h:Int):St:=ah [(0,xb 100000),(4,xb 4),(12,xb 12),(100000,xb 100000)] [(100000,(94,[.bor u0 5 (.int .u8) b,yi c,yi d])),(4,(26,[yi e,yi f,.nil])),(12,(26,[yi g,yi h,.own 20000770]))] [(20000770,(⟨3,.int .i64,a,true,false⟩:ac))]
def K2:aa:=⟨[0,4,12,100000],[100000,4,12],[],[],[(⟨true,12,2⟩,20000770)]⟩
def qN(u0:Value)(a:LI)(b:Int)(c:List Int)(d e f g h i:Int):St:=ah [(0,xb 100000),(4,xb 4),(12,xb 12),(13,xi b),(100000,xb 100000)] [(100000,(94,[.bor u0 5 (.int .u8) c,yi d,yi e])),(4,(26,[yi f,yi g,.nil])),(12,(26,[yi h,yi i,.own 20000770]))] [(20000770,(⟨3,.int .i64,a,true,false⟩:ac))]
def Be:aa:=⟨[0,4,12,13,100000],[100000,4,12],[],[],[(⟨true,12,2⟩,20000770)]⟩
def nV(u0:Value)(a:LI)(b c d e:Int)(f:List Int)(g h:Int):St:=ah [(4,xb 4),(12,xb 12),(100000,xb 100000)] [(4,(26,[yi b,yi c,.nil])),(12,(26,[yi d,yi e,.own 20000770])),(100000,(94,[.bor u0 5 (.int .u8) f,yi g,yi h]))] [(20000770,(⟨3,.int .i64,a,true,false⟩:ac))]
def vH:aa:=⟨[4,12,100000],[4,12,100000],[],[],[(⟨true,12,2⟩,20000770)]⟩
def vJ(u0:Value)(a:Int)(b:List Int)(c d e f:Int):St:=ah [(0,xb 100000),(4,xb 4),(7,xi a),(100000,xb 100000)] [(100000,(94,[.bor u0 5 (.int .u8) b,yi c,yi d])),(4,(26,[yi e,yi f,.nil]))] []
def kP:aa:=⟨[0,4,7,100000],[100000,4],[],[],[]⟩
def Bf(u0:Value)(a:LI)(b:Int)(c:List Int)(d e f g h i:Int):St:=ah [(0,xb 100000),(4,xb 4),(7,xi b),(16,xb 16),(100000,xb 100000)] [(100000,(94,[.bor u0 5 (.int .u8) c,yi d,yi e])),(4,(26,[yi f,yi g,.nil])),(16,(26,[yi h,yi i,.own 20001026]))] [(20001026,(⟨3,.int .i64,a,true,false⟩:ac))]
def K3:aa:=⟨[0,4,7,16,100000],[100000,4,16],[],[],[(⟨true,16,2⟩,20001026)]⟩
def qO(u0:Value)(a:LI)(b c:Int)(d:List Int)(e f g h i j:Int):St:=ah [(0,xb 100000),(4,xb 4),(7,xi b),(16,xb 16),(17,xi c),(100000,xb 100000)] [(100000,(94,[.bor u0 5 (.int .u8) d,yi e,yi f])),(4,(26,[yi g,yi h,.nil])),(16,(26,[yi i,yi j,.own 20001026]))] [(20001026,(⟨3,.int .i64,a,true,false⟩:ac))]
def Bg:aa:=⟨[0,4,7,16,17,100000],[100000,4,16],[],[],[(⟨true,16,2⟩,20001026)]⟩
def nW(u0:Value)(a:LI)(b c d e f:Int)(g:List Int)(h i:Int):St:=ah [(4,xb 4),(7,xi b),(16,xb 16),(100000,xb 100000)] [(4,(26,[yi c,yi d,.nil])),(16,(26,[yi e,yi f,.own 20001026])),(100000,(94,[.bor u0 5 (.int .u8) g,yi h,yi i]))] [(20001026,(⟨3,.int .i64,a,true,false⟩:ac))]
def vK:aa:=⟨[4,7,16,100000],[4,16,100000],[],[],[(⟨true,16,2⟩,20001026)]⟩
def jr(u0:Value)(a:LI)(b:ByteArray)(d e:Int)(f:List Int)(g h:Int):St:=ah [(4,xb 4),(5,.c (.str b)),(100000,xb 100000)] [(4,(26,[yi d,yi e,.own 20000258])),(100000,(94,[.bor u0 5 (.int .u8) f,yi g,yi h]))] [(20000258,(⟨3,.int .i64,a,true,false⟩:ac))]
def K4:aa:=⟨[4,5,100000],[4,100000],[],[],[(⟨true,4,2⟩,20000258)]⟩
def K5:Nat->Option aa:=ay [(1,qL),(3,vH),(0,kP),(5,vK),(1000000,K4)]
abbrev cU{J:Type}(N n:Nat)(V:St)(l:aa)(K:KT J):Option J:=ak A6 be K5 N (a6 99 (bf Try.f92) n) .n V (av (some l) K)
def K6 N u0 b0 r0 a (K:KT J):cU N 2 (KS u0 b0 r0 a) KU K =
 spec_dTree.Z1 N b0 r0 a (λa b c d e f=>K .nrm (A7 u0 a b c d e f)):=by kernel_rfl
def K7 N u0 a b c d e f (K:KT J):cU N 5 (A7 u0 a b c d e f) KV K =
 spec_dTree.Z3 N a b c d e f (λa g b c d e f=>K .nrm (A8 u0 a g b c d e f)):=by kernel_rfl
def K8 N u0 a b c d e f g (K:KT J):cU N 11 (A8 u0 a b c d e f g) A9 K =
 spec_dTree.Z5 N a b c d e f g (λa b h c d e f g=>K .nrm (qJ u0 a b h c d e f g)):=by kernel_rfl
def K9 N u0 a b c d e f g h (K:KT J):cU N 23 (qJ u0 a b c d e f g h) A9 K =
 spec_dTree.Z7 N a b c d e f g h (λa b c d e f g h=>K .nrm (qJ u0 a b c d e f g h)):=by kernel_rfl
def La N u0 h a b c d e f g (K:KT J):cU N 47 (qJ u0 h a b c d e f g) KW K =
 spec_dTree.Z9 N h a b c d e f g (λa b c d e f g=>K .nrm (Ba u0 a b c d e f g)):=by kernel_rfl
def Lc N u0 a b c d e f g (K:KT J):cU N 159 (Ba u0 a b c d e f g) KX K =
 spec_dTree.Z12 N a b c d e f g (λa b h c d e f g=>K .nrm (Bb u0 a b h c d e f g)):=by kernel_rfl
def Ld N u0 a b c d e f g h (K:KT J):cU N 607 (Bb u0 a b c d e f g h) KY K =
 spec_dTree.Z15 N a b c d e f g h (λa b c i d e f g h=>K .nrm (vD u0 a b c i d e f g h)):=by kernel_rfl
def Le N u0 a b h i c d e f g (K:KT J):cU N 2399 (vD u0 a b h i c d e f g) qL K =
 spec_dTree.Z18 N a b h i c d e f g (λj a b c d e f g l m=>K .nrm (kO u0 j a b c d e f g l m)):=by kernel_rfl
def Lg N u0 a b c d e f g h i j (K:KT J):cU N 9567 (kO u0 a b c d e f g h i j) Bc K =
 spec_dTree.Z21 N a b c d e f g h i j (λa b c l d e f g h i j=>K .nrm (qM u0 a b c l d e f g h i j)):=by kernel_rfl
def Lh N u0 a b c l d e f g h i j (K:KT J):cU N 38239 (qM u0 a b c l d e f g h i j) Bc K =
 spec_dTree.Z24 N a b c l d e f g h i j (λa b c l d e f g h i j=>K .nrm (qM u0 a b c l d e f g h i j)) (λa b c d e f g h i j=>K (.exit 1) (kO u0 a b c d e f g h i j)):=by kernel_rfl
def Li N u0 (K:KT J):=p6 K (spec_dTree.Z23L N (λa b c d e f g h i j=>K (.exit 1) (kO u0 a b c d e f g h i j))) (λa b c l d e f g h i j k=>spec_dTree.Z24 N a b c l d e f g h i j k (λa b c d e f g h i j=>K (.exit 1) (kO u0 a b c d e f g h i j))) (λF a b c l d e f g h i j=>Lh N u0 a b c l d e f g h i j _) (by kernel_rfl)
def Lj N u0 a b c d e f g h i j l (K:KT J):=vL (qM u0 a b c d e f g h i j l) (Li N u0 (jK qL K) N a b c d e f g h i j l) (by kernel_rfl)
def Lk N u0 a b c l d e f g h i j (K:KT J):=vB 1 qL K (spec_dTree.Z22 N a b c l d e f g h i j (λa b c d e f g h i j=>K .nrm (kO u0 a b c d e f g h i j))) (Lj N u0 a b c l d e f g h i j _) (by kernel_rfl)
def Ll N u0 a b c d e f g h i j (K:KT J):=vQ (λk=>spec_dTree.Z21 N a b c d e f g h i j k) (Lg N u0 a b c d e f g h i j _) (gB λa b c l d e f g h i j=>Lk N u0 a b c l d e f g h i j K)
def Lm N u0 f g h a b c d e i j (K:KT J):cU N 7519 (kO u0 f g h a b c d e i j) kP K =
 spec_dTree.Z25 N f g h a b c d e i j (λl m d e a b c=>K .ret (jr u0 l m d e a b c)):=by kernel_rfl
def Ln N u0 a b c d e f g h i j (K:KT J):=vQ (λk=>spec_dTree.Z20 N a b c d e f g h i j k) (Ll N u0 a b c d e f g h i j _) (dC λa b c d e f g h i j=>Lm N u0 a b c d e f g h i j K)
def Lo N u0 a b h i c d e f g (K:KT J):=vQ (λk=>spec_dTree.Z18 N a b h i c d e f g k) (Le N u0 a b h i c d e f g _) (dC λj a b c d e f g l m=>Ln N u0 j a b c d e f g l m K)
def Lp N u0 h a b i c d e f g (K:KT J):cU N 2911 (vD u0 h a b i c d e f g) KZ K =
 spec_dTree.Z27 N h a b i c d e f g (λa b j c d e f g=>K .nrm (vE u0 a b j c d e f g)):=by kernel_rfl
def Lq N u0 f g h a b c d e (K:KT J):cU N 5983 (vE u0 f g h a b c d e) kP K =
 spec_dTree.Z29 N f g h a b c d e (λi j d e a b c=>K .ret (jr u0 i j d e a b c)):=by kernel_rfl
def Lt N u0 a b h c d e f g (K:KT J):cU N 12127 (vE u0 a b h c d e f g) K0 K =
 spec_dTree.Z31 N a b h c d e f g (λa b i c d e f g=>K .nrm (vF u0 a b i c d e f g)):=by kernel_rfl
def Lu N u0 f g h a b c d e (K:KT J):cU N 24415 (vF u0 f g h a b c d e) kP K =
 spec_dTree.Z33 N f g h a b c d e (λi j d e a b c=>K .ret (jr u0 i j d e a b c)):=by kernel_rfl
def Lv N u0 a b h c d e f g (K:KT J):cU N 48991 (vF u0 a b h c d e f g) K1 K =
 spec_dTree.Z35 N a b h c d e f g (λa b i c d e f g=>K .nrm (vG u0 a b i c d e f g)):=by kernel_rfl
def Lw N u0 f g h a b c d e (K:KT J):cU N 163679 (vG u0 f g h a b c d e) K2 K =
 spec_dTree.Z38 N f g h a b c d e (λi a b c d e j l=>K .nrm (Bd u0 i a b c d e j l)):=by kernel_rfl
def Lx N u0 a b c d e f g h (K:KT J):cU N 622431 (Bd u0 a b c d e f g h) Be K =
 spec_dTree.Z41 N a b c d e f g h (λa i b c d e f g h=>K .nrm (qN u0 a i b c d e f g h)):=by kernel_rfl
def Ly N u0 a i b c d e f g h (K:KT J):cU N 2457439 (qN u0 a i b c d e f g h) Be K =
 spec_dTree.Z44 N a i b c d e f g h (λa i b c d e f g h=>K .nrm (qN u0 a i b c d e f g h)) (λa e f g h b c d=>K (.exit 3) (nV u0 a e f g h b c d)):=by kernel_rfl
def Lz N u0 (K:KT J):=nC K (spec_dTree.Z43L N (λa b c d e f g h=>K (.exit 3) (nV u0 a b c d e f g h))) (λa i f g h b c d e k=>spec_dTree.Z44 N a i f g h b c d e k (λa b c d e f g h=>K (.exit 3) (nV u0 a b c d e f g h))) (λF a i f g h b c d e=>Ly N u0 a i f g h b c d e _) (by kernel_rfl)
def LA N u0 a b c d e f g h i (K:KT J):=vL (qN u0 a b c d e f g h i) (Lz N u0 (jK vH K) N a b c d e f g h i) (by kernel_rfl)
def LB N u0 a i b c d e f g h (K:KT J):=vB 3 vH K (spec_dTree.Z42 N a i b c d e f g h (λa e f g h b c d=>K .nrm (nV u0 a e f g h b c d))) (LA N u0 a i b c d e f g h _) (by kernel_rfl)
def LC N u0 a b c d e f g h (K:KT J):=vQ (λk=>spec_dTree.Z41 N a b c d e f g h k) (Lx N u0 a b c d e f g h _) (dB λa i b c d e f g h=>LB N u0 a i b c d e f g h K)
def LD N u0 f a b g h c d e (K:KT J):cU N 491359 (nV u0 f a b g h c d e) kP K =
 spec_dTree.Z45 N f a b g h c d e (λi j a b c d e=>K .ret (jr u0 i j a b c d e)):=by kernel_rfl
def LE N u0 a b c d e f g h (K:KT J):=vQ (λk=>spec_dTree.Z40 N a b c d e f g h k) (LC N u0 a b c d e f g h _) (dA λa e f g h b c d=>LD N u0 a e f g h b c d K)
def LF N u0 f g h a b c d e (K:KT J):=vQ (λk=>spec_dTree.Z38 N f g h a b c d e k) (Lw N u0 f g h a b c d e _) (dA λi a b c d e j l=>LE N u0 i a b c d e j l K)
def LG N u0 f g h a b c d e (K:KT J):cU N 130911 (vG u0 f g h a b c d e) kP K =
 spec_dTree.Z46 N f g h a b c d e (λf a b c d e=>K .nrm (vJ u0 f a b c d e)) (λi j d e a b c=>K .ret (jr u0 i j d e a b c)):=by kernel_rfl
def LH N u0 b c a d e f g h (K:KT J):=vI (.tmp 126) (a) (LF N u0 b c a d e f g h K) (LG N u0 b c a d e f g h K) (by kernel_rfl)
def LJ N u0 a b h c d e f g (K:KT J):=vQ (λk=>spec_dTree.Z35 N a b h c d e f g k) (Lv N u0 a b h c d e f g _) (dA λa b i c d e f g=>LH N u0 a b i c d e f g K)
def LK N u0 b c a d e f g h (K:KT J):=vI (.tmp 119) (a) (Lu N u0 b c a d e f g h K) (LJ N u0 b c a d e f g h K) (by kernel_rfl)
def LN N u0 a b h c d e f g (K:KT J):=vQ (λk=>spec_dTree.Z31 N a b h c d e f g k) (Lt N u0 a b h c d e f g _) (dA λa b i c d e f g=>LK N u0 a b i c d e f g K)
def LO N u0 b c a d e f g h (K:KT J):=vI (.tmp 110) (a) (Lq N u0 b c a d e f g h K) (LN N u0 b c a d e f g h K) (by kernel_rfl)
def LP N u0 h a b i c d e f g (K:KT J):=vQ (λk=>spec_dTree.Z27 N h a b i c d e f g k) (Lp N u0 h a b i c d e f g _) (dA λa b j c d e f g=>LO N u0 a b j c d e f g K)
def LQ N u0 b c d a e f g h i (K:KT J):=vI (.tmp 65) (a) (Lo N u0 b c d a e f g h i K) (LP N u0 b c d a e f g h i K) (by kernel_rfl)
def LR N u0 a b c d e f g h (K:KT J):=vQ (λk=>spec_dTree.Z15 N a b c d e f g h k) (Ld N u0 a b c d e f g h _) (dB λa b c i d e f g h=>LQ N u0 a b c i d e f g h K)
def LS N u0 g f h a b c d e (K:KT J):=vB 0 kP K (spec_dTree.Z13 N g f h a b c d e (λf a b c d e=>K .nrm (vJ u0 f a b c d e)) (λi j d e a b c=>K .ret (jr u0 i j d e a b c))) (LR N u0 g f h a b c d e _) (by kernel_rfl)
def LT N u0 a b c d e f g (K:KT J):=vQ (λk=>spec_dTree.Z12 N a b c d e f g k) (Lc N u0 a b c d e f g _) (dA λa b h c d e f g=>LS N u0 a b h c d e f g K)
def LU N u0 a b c d e f (K:KT J):cU N 191 (vJ u0 a b c d e f) K3 K =
 spec_dTree.Z48 N a b c d e f (λg a b c d e f h i=>K .nrm (Bf u0 g a b c d e f h i)):=by kernel_rfl
def LV N u0 a b c d e f g h i (K:KT J):cU N 639 (Bf u0 a b c d e f g h i) Bg K =
 spec_dTree.Z51 N a b c d e f g h i (λa b j c d e f g h i=>K .nrm (qO u0 a b j c d e f g h i)):=by kernel_rfl
def LW N u0 a b j c d e f g h i (K:KT J):cU N 2431 (qO u0 a b j c d e f g h i) Bg K =
 spec_dTree.Z54 N a b j c d e f g h i (λa b j c d e f g h i=>K .nrm (qO u0 a b j c d e f g h i)) (λa b f g h i c d e=>K (.exit 5) (nW u0 a b f g h i c d e)):=by kernel_rfl
def LX N u0 (K:KT J):=iq K (spec_dTree.Z53L N (λa b c d e f g h i=>K (.exit 5) (nW u0 a b c d e f g h i))) (λa b j g h i c d e f k=>spec_dTree.Z54 N a b j g h i c d e f k (λa b c d e f g h i=>K (.exit 5) (nW u0 a b c d e f g h i))) (λF a b j g h i c d e f=>LW N u0 a b j g h i c d e f _) (by kernel_rfl)
def LY N u0 a b c d e f g h i j (K:KT J):=vL (qO u0 a b c d e f g h i j) (LX N u0 (jK vK K) N a b c d e f g h i j) (by kernel_rfl)
def LZ N u0 a b j c d e f g h i (K:KT J):=vB 5 vK K (spec_dTree.Z52 N a b j c d e f g h i (λa b f g h i c d e=>K .nrm (nW u0 a b f g h i c d e))) (LY N u0 a b j c d e f g h i _) (by kernel_rfl)
def L3 N u0 a b c d e f g h i (K:KT J):=vQ (λk=>spec_dTree.Z51 N a b c d e f g h i k) (LV N u0 a b c d e f g h i _) (dC λa b j c d e f g h i=>LZ N u0 a b j c d e f g h i K)
def L4 N u0 f g a b h i c d e (K:KT J):cU N 511 (nW u0 f g a b h i c d e) KR K =
 spec_dTree.Z55 N f g a b h i c d e (λj l a b c d e=>K .ret (jr u0 j l a b c d e)):=by kernel_rfl
def L5 N u0 a b c d e f g h i (K:KT J):=vQ (λk=>spec_dTree.Z50 N a b c d e f g h i k) (L3 N u0 a b c d e f g h i _) (dB λa b f g h i c d e=>L4 N u0 a b f g h i c d e K)
def L6 N u0 a b c d e f (K:KT J):=vQ (λk=>spec_dTree.Z48 N a b c d e f k) (LU N u0 a b c d e f _) (dB λg a b c d e f h i=>L5 N u0 g a b c d e f h i K)
def L7 N u0 g f a b c d e (K:KT J):=vQ (λk=>spec_dTree.Z11 N g f a b c d e k (λh i d e a b c=>K .ret (jr u0 h i d e a b c))) (LT N u0 g f a b c d e _) (dz λf a b c d e=>L6 N u0 f a b c d e K)
def L8 N u0 h a b c d e f g (K:KT J):=vQ (λk=>spec_dTree.Z9 N h a b c d e f g k) (La N u0 h a b c d e f g _) (eI λa b c d e f g=>L7 N u0 a b c d e f g K)
def L9 N u0 a b c d e f g h (K:KT J):=vQ (λk=>spec_dTree.Z7 N a b c d e f g h k) (K9 N u0 a b c d e f g h _) (dA λa b c d e f g h=>L8 N u0 a b c d e f g h K)
def Ma N u0 a b c d e f g (K:KT J):=vQ (λk=>spec_dTree.Z5 N a b c d e f g k) (K8 N u0 a b c d e f g _) (dA λa b h c d e f g=>L9 N u0 a b h c d e f g K)
def Mb N u0 a b c d e f (K:KT J):=vQ (λk=>spec_dTree.Z3 N a b c d e f k) (K7 N u0 a b c d e f _) (eI λa g b c d e f=>Ma N u0 a g b c d e f K)
def Mc N u0 b0 r0 a (K:KT J):=vQ (λk=>spec_dTree.Z1 N b0 r0 a k) (K6 N u0 b0 r0 a _) (dz λa b c d e f=>Mb N u0 a b c d e f K)
def Md(h:spec_dTree.Spec):db Try.prog 92 vC :=
 ir Try.func92 bg KQ (λN u X K=>Mc N u X.1.1.1 X.1.2 X.2.1 K) (by kernel_rfl) λu0 X hb1 hb2 hp=>by obtain⟨⟨⟨b0,_⟩,r0⟩,a,_⟩:=X;obtain⟨N,h⟩:=h [u0] b0 r0 a hb1.1 hp;exact⟨N,Eq.trans (by kernel_rfl) (h N (Nat.le_refl N))⟩
def Me:db Try.prog 92 vC:=Md spec_dTree.ok
def Bh:bv:=⟨[⟨.int .i64,false,false⟩,⟨.int .i64,false,false⟩,⟨.int .i64,false,false⟩],[⟨.bool,false,false⟩]⟩
def qP:aW:=⟨Bh,none,λX=>((),((fp.g X.1 X.2.1 X.2.2.1),()))⟩
def Bi:Gm:=ba
def Mf:aq Try.prog Bi:=aq.nil
def Mg:aa:=⟨[],[],[],[],[]⟩
def Mh(a b c:Int):St:=bz Bh.ps (a,(b,(c,())))
def Mi(a:Bool):St:=ah [(6,xB a)] [] []
def Mj:aa:=⟨[6],[],[],[],[]⟩
def Mk:Nat->Option aa:=ay [(1000000,Mj)]
abbrev Ml{J:Type}(N n:Nat)(V:St)(l:aa)(K:KT J):Option J:=ak Bi be Mk N (a6 99 (bf Try.f76) n) .n V (av (some l) K)
def Mm N a b c (K:KT J):Ml N 1 (Mh a b c) Mg K =
 fp.Z0 N a b c (λd=>K .ret (Mi d)):=by kernel_rfl
def Mn(h:fp.Spec):aB Try.prog 76 qP :=
 bI Try.func76 bg Mf (λN X K=>Mm N X.1 X.2.1 X.2.2.1 K) (by kernel_rfl) λX hb hp=>by obtain⟨a,b,c,_⟩:=X;obtain⟨N,h⟩:=h a b c;exact⟨N,Eq.trans (by kernel_rfl) (h N (Nat.le_refl N))⟩
def Bj:aB Try.prog 76 qP:=Mn fp.ok
def Bk:bv:=⟨[⟨.pair (.int .i64) (.pair (.int .i64) (.sl 3 (.int .i64))),true,false⟩,⟨.int .i64,false,false⟩,⟨.int .i64,false,false⟩],[⟨.int .i64,false,false⟩]⟩
def kQ:aW:=⟨Bk,(some λX=>bn.P X.1 X.2.1 X.2.2.1),λX=>((),((bn.g X.1 X.2.1 X.2.2.1),()))⟩
def Bl:Gm:=ba
def Mo:aq Try.prog Bl:=aq.nil
def Mp:aa:=⟨[],[],[],[],[]⟩
def Mq(a:MT)(b c:Int):St:=bz Bk.ps (a,(b,(c,())))
def Mr(a:Int):St:=ah [(6,xi a)] [] []
def Mt:aa:=⟨[6],[],[],[],[]⟩
def Mu:Nat->Option aa:=ay [(1000000,Mt)]
abbrev Mv{J:Type}(N n:Nat)(V:St)(l:aa)(K:KT J):Option J:=ak Bl be Mu N (a6 99 (bf Try.f75) n) .n V (av (some l) K)
def Mw N a b c (K:KT J):Mv N 1 (Mq a b c) Mp K =
 bn.Z0 N a b c (λd=>K .ret (Mr d)):=by kernel_rfl
def Mx(h:bn.Spec):aB Try.prog 75 kQ :=
 bI Try.func75 bg Mo (λN X K=>Mw N X.1 X.2.1 X.2.2.1 K) (by kernel_rfl) λX hb hp=>by obtain⟨a,b,c,_⟩:=X;obtain⟨N,h⟩:=h a b c hb.1 hp;exact⟨N,Eq.trans (by kernel_rfl) (h N (Nat.le_refl N))⟩
def nX:aB Try.prog 75 kQ:=Mx bn.ok
def Bm:bv:=⟨[⟨.pair (.int .i64) (.pair (.int .i64) (.sl 3 (.int .i64))),true,false⟩],[⟨.bool,false,false⟩]⟩
def nY:aW:=⟨Bm,none,λX=>((),((bO.g X.1),()))⟩
def Bn:Gm:=aR (aR ba 75 kQ) 76 qP
def My:aq Try.prog Bn:=((aq.nil).add nX (by kernel_rfl)).add Bj (by kernel_rfl)
def Mz:aa:=⟨[],[],[],[],[]⟩
def MA(a:MT):St:=bz Bm.ps (a,())
def iA(a b:Int)(c:LI):St:=ah [(1,xb 1)] [(1,(26,[yi a,yi b,.sn 3 tI c none]))] []
def nZ:aa:=⟨[1],[1],[],[],[]⟩
def qQ(a b c:Int)(d:LI):St:=ah [(1,xb 1),(3,xi a)] [(1,(26,[yi b,yi c,.sn 3 tI d none]))] []
def Bo:aa:=⟨[1,3],[1],[],[],[]⟩
def gc(a b c:Int)(d:LI):St:=ah [(1,xb 1),(4,xi a)] [(1,(26,[yi b,yi c,.sn 3 tI d none]))] []
def jt:aa:=⟨[1,4],[1],[],[],[]⟩
def qR(a b c d:Int)(e:LI):St:=ah [(1,xb 1),(4,xi a),(5,xi b)] [(1,(26,[yi c,yi d,.sn 3 tI e none]))] []
def Bp:aa:=⟨[1,4,5],[1],[],[],[]⟩
def lY :St:=ah [] [] []
def vM:aa:=⟨[],[],[],[],[]⟩
def ed(a:Bool):St:=ah [(2,xB a)] [] []
def MB:aa:=⟨[2],[],[],[],[]⟩
def MC:Nat->Option aa:=ay [(0,nZ),(4,jt),(3,jt),(2,vM),(1000000,MB)]
abbrev g8{J:Type}(N n:Nat)(V:St)(l:aa)(K:KT J):Option J:=ak Bn be MC N (a6 99 (bf Try.f78) n) .n V (av (some l) K)
def MD N a (K:KT J):g8 N 2 (MA a) nZ K =
 bO.Z1 N a (λb c d=>K .nrm (iA b c d)):=by kernel_rfl
def ME N a b c (K:KT J):g8 N 5 (iA a b c) nZ K =
 bO.Z3 N a b c (λa b c=>K .nrm (iA a b c)) (λd=>K .ret (ed d)):=by kernel_rfl
def MF N a b c (K:KT J):g8 N 19 (iA a b c) Bo K =
 bO.Z6 N a b c (λd a b c=>K .nrm (qQ d a b c)):=by kernel_rfl
def MG N d a b c (K:KT J):g8 N 75 (qQ d a b c) Bo K =
 bO.Z9 N d a b c (λd a b c=>K .nrm (qQ d a b c)) (λa b c=>K (.exit 0) (iA a b c)) (λe=>K .ret (ed e)):=by kernel_rfl
def MH N (K:KT J):=uC K (bO.Z8L N (λa b c=>K (.exit 0) (iA a b c)) (λd=>K .ret (ed d))) (λe a b c k=>bO.Z9 N e a b c k (λa b c=>K (.exit 0) (iA a b c)) (λd=>K .ret (ed d))) (λF e a b c=>MG N e a b c _) (by kernel_rfl)
def MI N a b c d (K:KT J):=vL (qQ a b c d) (MH N (jK nZ K) N a b c d) (by kernel_rfl)
def MJ N d a b c (K:KT J):=vB 0 nZ K (bO.Z7 N d a b c (λa b c=>K .nrm (iA a b c)) (λe=>K .ret (ed e))) (MI N d a b c _) (by kernel_rfl)
def MK N a b c (K:KT J):=vQ (λk=>bO.Z6 N a b c k) (MF N a b c _) (dQ λd a b c=>MJ N d a b c K)
def ML N a b c (K:KT J):g8 N 39 (iA a b c) jt K =
 bO.Z12 N a b c (λd a b c=>K .nrm (gc d a b c)):=by kernel_rfl
def MM N a b c d (K:KT J):g8 N 279 (gc a b c d) jt K =
 bO.Z16 N a b c d (λa b c d=>K .nrm (gc a b c d)) (K (.exit 2) lY):=by kernel_rfl
def MN N a b c d (K:KT J):g8 N 2199 (gc a b c d) Bp K =
 bO.Z20 N a b c d (λa e b c d=>K .nrm (qR a e b c d)):=by kernel_rfl
def MO N a e b c d (K:KT J):g8 N 9367 (qR a e b c d) Bp K =
 bO.Z23 N a e b c d (λa e b c d=>K .nrm (qR a e b c d)) (λa b c d=>K (.exit 4) (gc a b c d)) (λf=>K .ret (ed f)):=by kernel_rfl
def MP N (K:KT J):=ji K (bO.Z22L N (λa b c d=>K (.exit 4) (gc a b c d)) (λe=>K .ret (ed e))) (λa f b c d k=>bO.Z23 N a f b c d k (λa b c d=>K (.exit 4) (gc a b c d)) (λe=>K .ret (ed e))) (λF a f b c d=>MO N a f b c d _) (by kernel_rfl)
def MQ N a b c d e (K:KT J):=vL (qR a b c d e) (MP N (jK jt K) N a b c d e) (by kernel_rfl)
def MR N a e b c d (K:KT J):=vB 4 jt K (bO.Z21 N a e b c d (λa b c d=>K .nrm (gc a b c d)) (λf=>K .ret (ed f))) (MQ N a e b c d _) (by kernel_rfl)
def MS N a b c d (K:KT J):=vQ (λk=>bO.Z20 N a b c d k) (MN N a b c d _) (bZ λa e b c d=>MR N a e b c d K)
def MU N a b c d (K:KT J):=vB 3 jt K (bO.Z18 N a b c d (λa b c d=>K .nrm (gc a b c d)) (λe=>K .ret (ed e))) (MS N a b c d _) (by kernel_rfl)
def MV N a b c d (K:KT J):g8 N 919 (gc a b c d) jt K =
 bO.Z24 N a b c d (λa b c d=>K .nrm (gc a b c d)):=by kernel_rfl
def MW N a b c d (K:KT J):=vQ (λk=>bO.Z18 N a b c d k (λe=>K .ret (ed e))) (MU N a b c d _) (dQ λa b c d=>MV N a b c d K)
def MX N a b c d (K:KT J):=vQ (λk=>bO.Z16 N a b c d k (K (.exit 2) lY)) (MM N a b c d _) (dQ λa b c d=>MW N a b c d K)
def MY N (K:KT J):=uC K (bO.Z14L N (K (.exit 2) lY) (λa=>K .ret (ed a))) (λb c d e k=>bO.Z15 N b c d e k (K (.exit 2) lY) (λa=>K .ret (ed a))) (λF b c d e=>MX N b c d e _) (by kernel_rfl)
def MZ N a b c d (K:KT J):=vL (gc a b c d) (MY N (jK vM K) N a b c d) (by kernel_rfl)
def M0 N a b c d (K:KT J):=vB 2 vM K (bO.Z13 N a b c d (K .nrm lY) (λe=>K .ret (ed e))) (MZ N a b c d _) (by kernel_rfl)
def M3 N a b c (K:KT J):=vQ (λk=>bO.Z12 N a b c k) (ML N a b c _) (dQ λd a b c=>M0 N d a b c K)
def M4 N  (K:KT J):g8 N 31 lY Mz K =
 bO.Z25 N (λa=>K .ret (ed a)):=by kernel_rfl
def M5 N a b c (K:KT J):=vQ (λk=>bO.Z11 N a b c k (λd=>K .ret (ed d))) (M3 N a b c _) (M4 N K)
def M6 N a b c (K:KT J):=vQ (λk=>bO.Z5 N a b c k (λd=>K .ret (ed d))) (MK N a b c _) (dP λa b c=>M5 N a b c K)
def M7 N a b c (K:KT J):=vQ (λk=>bO.Z3 N a b c k (λd=>K .ret (ed d))) (ME N a b c _) (dP λa b c=>M6 N a b c K)
def M8 N a (K:KT J):=vQ (λk=>bO.Z1 N a k) (MD N a _) (dP λb c d=>M7 N b c d K)
def M9(h:bO.Spec):aB Try.prog 78 nY :=
 bI Try.func78 bg My (λN X K=>M8 N X.1 K) (by kernel_rfl) λX hb hp=>by obtain⟨a,_⟩:=X;obtain⟨N,h⟩:=h a hb.1;exact⟨N,Eq.trans (by kernel_rfl) (h N (Nat.le_refl N))⟩
def vN:aB Try.prog 78 nY:=M9 bO.ok
def Bq:bv:=⟨[⟨.sl 3 (.int .i64),false,false⟩,⟨.int .i64,false,false⟩],[⟨.bool,false,false⟩]⟩
def vO:aW:=⟨Bq,none,λX=>((),((dE.g X.1 X.2.1),()))⟩
def Br:Gm:=ba
def Na:aq Try.prog Br:=aq.nil
def Nb:aa:=⟨[],[],[],[],[]⟩
def Nc(a:LI)(b:Int):St:=bz Bq.ps (a,(b,()))
def Bs(a:LI)(b:Int):St:=ah [(0,.c (.sn 3 tI a none)),(1,xi b)] [] []
def Nd:aa:=⟨[0,1],[],[],[],[]⟩
def qS(a:LI)(b d:Int):St:=ah [(0,.c (.sn 3 tI a none)),(1,xi b),(5,xi d)] [] []
def Bt:aa:=⟨[0,1,5],[],[],[],[]⟩
def n7 :St:=ah [] [] []
def vR:aa:=⟨[],[],[],[],[]⟩
def lZ(a:Bool):St:=ah [(4,xB a)] [] []
def Nf:aa:=⟨[4],[],[],[],[]⟩
def Ng:Nat->Option aa:=ay [(0,vR),(1000000,Nf)]
abbrev qT{J:Type}(N n:Nat)(V:St)(l:aa)(K:KT J):Option J:=ak Br be Ng N (a6 99 (bf Try.f100) n) .n V (av (some l) K)
def Nh N a b (K:KT J):qT N 2 (Nc a b) Nd K =
 dE.Z1 N a b (λa b=>K .nrm (Bs a b)):=by kernel_rfl
def Ni N a b (K:KT J):qT N 9 (Bs a b) Bt K =
 dE.Z4 N a b (λa b c=>K .nrm (qS a b c)):=by kernel_rfl
def Nj N a b c (K:KT J):qT N 37 (qS a b c) Bt K =
 dE.Z7 N a b c (λa b c=>K .nrm (qS a b c)) (K (.exit 0) n7) (λd=>K .ret (lZ d)):=by kernel_rfl
def Nk N (K:KT J):=jh K (dE.Z6L N (K (.exit 0) n7) (λa=>K .ret (lZ a))) (λb c d k=>dE.Z7 N b c d k (K (.exit 0) n7) (λa=>K .ret (lZ a))) (λF b c d=>Nj N b c d _) (by kernel_rfl)
def Nl N a b c (K:KT J):=vL (qS a b c) (Nk N (jK vR K) N a b c) (by kernel_rfl)
def Nm N a b c (K:KT J):=vB 0 vR K (dE.Z5 N a b c (K .nrm n7) (λd=>K .ret (lZ d))) (Nl N a b c _) (by kernel_rfl)
def Nn N a b (K:KT J):=vQ (λk=>dE.Z4 N a b k) (Ni N a b _) (dP λa b c=>Nm N a b c K)
def No N  (K:KT J):qT N 7 n7 Nb K =
 dE.Z8 N (λa=>K .ret (lZ a)):=by kernel_rfl
def Np N a b (K:KT J):=vQ (λk=>dE.Z3 N a b k (λc=>K .ret (lZ c))) (Nn N a b _) (No N K)
def Nq N a b (K:KT J):=vQ (λk=>dE.Z1 N a b k) (Nh N a b _) (eH λa b=>Np N a b K)
def Nr(h:dE.Spec):aB Try.prog 100 vO :=
 bI Try.func100 bg Na (λN X K=>Nq N X.1 X.2.1 K) (by kernel_rfl) λX hb hp=>by obtain⟨a,b,_⟩:=X;obtain⟨N,h⟩:=h a b hb.1;exact⟨N,Eq.trans (by kernel_rfl) (h N (Nat.le_refl N))⟩
def Ns:aB Try.prog 100 vO:=Nr dE.ok
def Bu:bv:=⟨[⟨.pair (.int .i64) (.pair (.int .i64) (.sl 3 (.int .i64))),true,false⟩,⟨.int .i64,false,false⟩],[⟨.sl 3 (.int .i64),false,false⟩,⟨.sl 3 (.int .i64),false,false⟩]⟩
def vS:aW:=⟨Bu,(some λX=>bV.P X.1 X.2.1),λX=>((),((bV.g X.1 X.2.1).1,((bV.g X.1 X.2.1).2,())))⟩
def Bv:Gm:=aR (aR ba 75 kQ) 100 vO
def Nt:aq Try.prog Bv:=((aq.nil).add nX (by kernel_rfl)).add Ns (by kernel_rfl)
def Nu:aa:=⟨[],[],[],[],[]⟩
def Nv(a:MT)(b:Int):St:=bz Bu.ps (a,(b,()))
def Bw(a b c:Int)(d:LI):St:=ah [(1,xi a),(2,xb 2)] [(2,(26,[yi b,yi c,.sn 3 tI d none]))] []
def Nw:aa:=⟨[1,2],[2],[],[],[]⟩
def Bx(a:LI)(b c d:Int)(e:LI):St:=ah [(1,xi b),(2,xb 2),(6,xo 1000384)] [(2,(26,[yi c,yi d,.sn 3 tI e none]))] [(1000384,(⟨3,.int .i64,a,true,false⟩:ac))]
def Nx:aa:=⟨[1,2,6],[2],[],[],[(⟨false,6,0⟩,1000384)]⟩
def By(a b:LI)(c d:Int)(e:LI):St:=ah [(2,xb 2),(6,xo 1000384),(7,xo 1000448)] [(2,(26,[yi c,yi d,.sn 3 tI e none]))] [(1000384,(⟨3,.int .i64,a,true,false⟩:ac)),(1000448,(⟨3,.int .i64,b,true,false⟩:ac))]
def Ny:aa:=⟨[2,6,7],[2],[],[],[(⟨false,6,0⟩,1000384),(⟨false,7,0⟩,1000448)]⟩
def gd(a b:LI)(c d e:Int)(f:LI):St:=ah [(2,xb 2),(6,xo 1000384),(7,xo 1000448),(8,xi c)] [(2,(26,[yi d,yi e,.sn 3 tI f none]))] [(1000384,(⟨3,.int .i64,a,true,false⟩:ac)),(1000448,(⟨3,.int .i64,b,true,false⟩:ac))]
def ju:aa:=⟨[2,6,7,8],[2],[],[],[(⟨false,6,0⟩,1000384),(⟨false,7,0⟩,1000448)]⟩
def qU(a b:LI)(c d e f:Int)(g:LI):St:=ah [(2,xb 2),(6,xo 1000384),(7,xo 1000448),(8,xi c),(9,xi d)] [(2,(26,[yi e,yi f,.sn 3 tI g none]))] [(1000384,(⟨3,.int .i64,a,true,false⟩:ac)),(1000448,(⟨3,.int .i64,b,true,false⟩:ac))]
def Bz:aa:=⟨[2,6,7,8,9],[2],[],[],[(⟨false,6,0⟩,1000384),(⟨false,7,0⟩,1000448)]⟩
def l0(a b:LI):St:=ah [(6,xo 1000384),(7,xo 1000448)] [] [(1000384,(⟨3,.int .i64,a,true,false⟩:ac)),(1000448,(⟨3,.int .i64,b,true,false⟩:ac))]
def vT:aa:=⟨[6,7],[],[],[],[(⟨false,6,0⟩,1000384),(⟨false,7,0⟩,1000448)]⟩
def Nz(a b:LI):St:=ah [(4,xo 1000256),(5,xo 1000320)] [] [(1000256,(⟨3,.int .i64,a,true,false⟩:ac)),(1000320,(⟨3,.int .i64,b,true,false⟩:ac))]
def NA:aa:=⟨[4,5],[],[],[],[(⟨false,4,0⟩,1000256),(⟨false,5,0⟩,1000320)]⟩
def NB:Nat->Option aa:=ay [(2,ju),(1,ju),(0,vT),(1000000,NA)]
abbrev iC{J:Type}(N n:Nat)(V:St)(l:aa)(K:KT J):Option J:=ak Bv be NB N (a6 99 (bf Try.f114) n) .n V (av (some l) K)
def NC N b a (K:KT J):iC N 2 (Nv b a) Nw K =
 bV.Z1 N b a (λa c d e=>K .nrm (Bw a c d e)):=by kernel_rfl
def ND N a b c d (K:KT J):iC N 5 (Bw a b c d) Nx K =
 bV.Z3 N a b c d (λe a b c d=>K .nrm (Bx e a b c d)):=by kernel_rfl
def NE N a e b c d (K:KT J):iC N 11 (Bx a e b c d) Ny K =
 bV.Z5 N a e b c d (λa f b c d=>K .nrm (By a f b c d)):=by kernel_rfl
def NF N a b c d e (K:KT J):iC N 39 (By a b c d e) ju K =
 bV.Z8 N a b c d e (λa b f c d e=>K .nrm (gd a b f c d e)):=by kernel_rfl
def NG N a b c d e f (K:KT J):iC N 279 (gd a b c d e f) ju K =
 bV.Z12 N a b c d e f (λa b c d e f=>K .nrm (gd a b c d e f)) (λa b=>K (.exit 0) (l0 a b)):=by kernel_rfl
def NH N a b c d e f (K:KT J):iC N 2199 (gd a b c d e f) Bz K =
 bV.Z16 N a b c d e f (λa b c g d e f=>K .nrm (qU a b c g d e f)):=by kernel_rfl
def NI N a b c g d e f (K:KT J):iC N 9367 (qU a b c g d e f) Bz K =
 bV.Z19 N a b c g d e f (λa b c g d e f=>K .nrm (qU a b c g d e f)) (λa b c d e f=>K (.exit 2) (gd a b c d e f)):=by kernel_rfl
def NJ N (K:KT J):=kC K (bV.Z18L N (λa b c d e f=>K (.exit 2) (gd a b c d e f))) (λa b c g d e f k=>bV.Z19 N a b c g d e f k (λa b c d e f=>K (.exit 2) (gd a b c d e f))) (λF a b c g d e f=>NI N a b c g d e f _) (by kernel_rfl)
def NK N a b c d e f g (K:KT J):=vL (qU a b c d e f g) (NJ N (jK ju K) N a b c d e f g) (by kernel_rfl)
def NL N a b c g d e f (K:KT J):=vB 2 ju K (bV.Z17 N a b c g d e f (λa b c d e f=>K .nrm (gd a b c d e f))) (NK N a b c g d e f _) (by kernel_rfl)
def NM N a b c d e f (K:KT J):=vQ (λk=>bV.Z16 N a b c d e f k) (NH N a b c d e f _) (eI λa b c g d e f=>NL N a b c g d e f K)
def NN N a b c d e f (K:KT J):=vB 1 ju K (bV.Z14 N a b c d e f (λa b c d e f=>K .nrm (gd a b c d e f))) (NM N a b c d e f _) (by kernel_rfl)
def NO N a b c d e f (K:KT J):iC N 919 (gd a b c d e f) ju K =
 bV.Z20 N a b c d e f (λa b c d e f=>K .nrm (gd a b c d e f)):=by kernel_rfl
def NQ N a b c d e f (K:KT J):=vQ (λk=>bV.Z14 N a b c d e f k) (NN N a b c d e f _) (dz λa b c d e f=>NO N a b c d e f K)
def NR N a b c d e f (K:KT J):=vQ (λk=>bV.Z12 N a b c d e f k (λa b=>K (.exit 0) (l0 a b))) (NG N a b c d e f _) (dz λa b c d e f=>NQ N a b c d e f K)
def NS N (K:KT J):=nB K (bV.Z10L N (λa b=>K (.exit 0) (l0 a b))) (λa b c d e f k=>bV.Z11 N a b c d e f k (λa b=>K (.exit 0) (l0 a b))) (λF a b c d e f=>NR N a b c d e f _) (by kernel_rfl)
def NT N a b c d e f (K:KT J):=vL (gd a b c d e f) (NS N (jK vT K) N a b c d e f) (by kernel_rfl)
def NU N a b c d e f (K:KT J):=vB 0 vT K (bV.Z9 N a b c d e f (λa b=>K .nrm (l0 a b))) (NT N a b c d e f _) (by kernel_rfl)
def NV N a b c d e (K:KT J):=vQ (λk=>bV.Z8 N a b c d e k) (NF N a b c d e _) (dz λa b f c d e=>NU N a b f c d e K)
def NW N a b (K:KT J):iC N 31 (l0 a b) Nu K =
 bV.Z21 N a b (λc d=>K .ret (Nz c d)):=by kernel_rfl
def NX N a b c d e (K:KT J):=vQ (λk=>bV.Z7 N a b c d e k) (NV N a b c d e _) (eH λa b=>NW N a b K)
def NY N a e b c d (K:KT J):=vQ (λk=>bV.Z5 N a e b c d k) (NE N a e b c d _) (bZ λa f b c d=>NX N a f b c d K)
def NZ N a b c d (K:KT J):=vQ (λk=>bV.Z3 N a b c d k) (ND N a b c d _) (bZ λe a b c d=>NY N e a b c d K)
def N1 N b a (K:KT J):=vQ (λk=>bV.Z1 N b a k) (NC N b a _) (dQ λa c d e=>NZ N a c d e K)
def N2(h:bV.Spec):aB Try.prog 114 vS :=
 bI Try.func114 bg Nt (λN X K=>N1 N X.1 X.2.1 K) (by kernel_rfl) λX hb hp=>by obtain⟨a,b,_⟩:=X;obtain⟨N,h⟩:=h a b hb.1 hp;exact⟨N,Eq.trans (by kernel_rfl) (h N (Nat.le_refl N))⟩
def N3:aB Try.prog 114 vS:=N2 bV.ok
def BA:bv:=⟨[⟨.int .i64,false,false⟩],[⟨.int .i64,false,false⟩]⟩
def vU:aW:=⟨BA,none,λX=>((),((eX.g X.1),()))⟩
def BB:Gm:=ba
def N4:aq Try.prog BB:=aq.nil
def N5:aa:=⟨[],[],[],[],[]⟩
def N6(a:Int):St:=bz BA.ps (a,())
def N7(a:Int):St:=ah [(2,xi a)] [] []
def N8:aa:=⟨[2],[],[],[],[]⟩
def N9:Nat->Option aa:=ay [(1000000,N8)]
abbrev Oa{J:Type}(N n:Nat)(V:St)(l:aa)(K:KT J):Option J:=ak BB be N9 N (a6 99 (bf Try.f74) n) .n V (av (some l) K)
def Ob N a (K:KT J):Oa N 1 (N6 a) N5 K =
 eX.Z0 N a (λb=>K .ret (N7 b)):=by kernel_rfl
def Oc(h:eX.Spec):aB Try.prog 74 vU :=
 bI Try.func74 bg N4 (λN X K=>Ob N X.1 K) (by kernel_rfl) λX hb hp=>by obtain⟨a,_⟩:=X;obtain⟨N,h⟩:=h a;exact⟨N,Eq.trans (by kernel_rfl) (h N (Nat.le_refl N))⟩
def Od:aB Try.prog 74 vU:=Oc eX.ok
def BC:bv:=⟨[⟨.int .i64,false,false⟩,⟨.int .i64,false,false⟩],[⟨.int .i64,false,false⟩]⟩
def vV:aW:=⟨BC,(some λX=>dV.P X.1 X.2.1),λX=>((),((dV.g X.1 X.2.1),()))⟩
def BD:Gm:=ba
def Oe:aq Try.prog BD:=aq.nil
def Of:aa:=⟨[],[],[],[],[]⟩
def Og(a b:Int):St:=bz BC.ps (a,(b,()))
def qV(a b:Int):St:=ah [(0,xi a),(1,xi b)] [] []
def BE:aa:=⟨[0,1],[],[],[],[]⟩
def n8(a:Int):St:=ah [(0,xi a)] [] []
def vW:aa:=⟨[0],[],[],[],[]⟩
def Oh(a:Int):St:=ah [(4,xi a)] [] []
def Oi:aa:=⟨[4],[],[],[],[]⟩
def Oj:Nat->Option aa:=ay [(0,vW),(1000000,Oi)]
abbrev vX{J:Type}(N n:Nat)(V:St)(l:aa)(K:KT J):Option J:=ak BD be Oj N (a6 99 (bf Try.f115) n) .n V (av (some l) K)
def Ok N a b (K:KT J):vX N 2 (Og a b) BE K =
 dV.Z1 N a b (λa b=>K .nrm (qV a b)):=by kernel_rfl
def Ol N a b (K:KT J):vX N 17 (qV a b) BE K =
 dV.Z5 N a b (λa b=>K .nrm (qV a b)) (λa=>K (.exit 0) (n8 a)):=by kernel_rfl
def Om N (K:KT J):=uB K (dV.Z4L N (λa=>K (.exit 0) (n8 a))) (λa b k=>dV.Z5 N a b k (λa=>K (.exit 0) (n8 a))) (λF a b=>Ol N a b _) (by kernel_rfl)
def On N a b (K:KT J):=vL (qV a b) (Om N (jK vW K) N a b) (by kernel_rfl)
def Oo N a b (K:KT J):=vB 0 vW K (dV.Z3 N a b (λa=>K .nrm (n8 a))) (On N a b _) (by kernel_rfl)
def Oq N a (K:KT J):vX N 7 (n8 a) Of K =
 dV.Z6 N a (λb=>K .ret (Oh b)):=by kernel_rfl
def Ot N a b (K:KT J):=vQ (λk=>dV.Z3 N a b k) (Oo N a b _) (funext λa=>Oq N a K)
def Ou N a b (K:KT J):=vQ (λk=>dV.Z1 N a b k) (Ok N a b _) (eH λa b=>Ot N a b K)
def Ov(h:dV.Spec):aB Try.prog 115 vV :=
 bI Try.func115 bg Oe (λN X K=>Ou N X.1 X.2.1 K) (by kernel_rfl) λX hb hp=>by obtain⟨a,b,_⟩:=X;obtain⟨N,h⟩:=h a b hp;exact⟨N,Eq.trans (by kernel_rfl) (h N (Nat.le_refl N))⟩
def Ow:aB Try.prog 115 vV:=Ov dV.ok
def BF:bv:=⟨[⟨.pair (.int .i64) (.pair (.int .i64) (.sl 3 (.int .i64))),true,false⟩],[⟨.sl 3 (.int .i64),false,false⟩,⟨.bool,false,false⟩]⟩
def vY:aW:=⟨BF,(some λX=>aM.P X.1),λX=>((),((aM.g X.1).1,((aM.g X.1).2,())))⟩
def BG:Gm:=aR (aR (aR (aR ba 74 vU) 75 kQ) 114 vS) 115 vV
def Ox:aq Try.prog BG:=((((aq.nil).add Od (by kernel_rfl)).add nX (by kernel_rfl)).add N3 (by kernel_rfl)).add Ow (by kernel_rfl)
def Oy:aa:=⟨[],[],[],[],[]⟩
def Oz(a:MT):St:=bz BF.ps (a,())
def BH(a b:Int)(c:LI):St:=ah [(1,xb 1)] [(1,(26,[yi a,yi b,.sn 3 tI c none]))] []
def OA:aa:=⟨[1],[1],[],[],[]⟩
def jv(a:LI)(b c:Int)(d:LI):St:=ah [(1,xb 1),(4,xo 1000256)] [(1,(26,[yi b,yi c,.sn 3 tI d none]))] [(1000256,(⟨3,.int .i64,a,true,false⟩:ac))]
def qW:aa:=⟨[1,4],[1],[],[],[(⟨false,4,0⟩,1000256)]⟩
def eO(a:LI)(b c d:Int)(e:LI):St:=ah [(1,xb 1),(4,xo 1000256),(5,xi b)] [(1,(26,[yi c,yi d,.sn 3 tI e none]))] [(1000256,(⟨3,.int .i64,a,true,false⟩:ac))]
def iD:aa:=⟨[1,4,5],[1],[],[],[(⟨false,4,0⟩,1000256)]⟩
def iE(a b c:LI)(d e f:Int)(g:LI):St:=ah [(1,xb 1),(4,xo 1000256),(5,xi d),(6,xo 1000384),(7,xo 1000448)] [(1,(26,[yi e,yi f,.sn 3 tI g none]))] [(1000256,(⟨3,.int .i64,a,true,false⟩:ac)),(1000384,(⟨3,.int .i64,b,true,false⟩:ac)),(1000448,(⟨3,.int .i64,c,true,false⟩:ac))]
def n9:aa:=⟨[1,4,5,6,7],[1],[],[],[(⟨false,4,0⟩,1000256),(⟨false,6,0⟩,1000384),(⟨false,7,0⟩,1000448)]⟩
def qX(a b c:LI)(d e f g:Int)(h:LI):St:=ah [(1,xb 1),(4,xo 1000256),(5,xi d),(6,xo 1000384),(7,xo 1000448),(8,xi e)] [(1,(26,[yi f,yi g,.sn 3 tI h none]))] [(1000256,(⟨3,.int .i64,a,true,false⟩:ac)),(1000384,(⟨3,.int .i64,b,true,false⟩:ac)),(1000448,(⟨3,.int .i64,c,true,false⟩:ac))]
def BI:aa:=⟨[1,4,5,6,7,8],[1],[],[],[(⟨false,4,0⟩,1000256),(⟨false,6,0⟩,1000384),(⟨false,7,0⟩,1000448)]⟩
def BJ(a b c:LI)(d e f g:Int)(h:LI):St:=ah [(1,xb 1),(4,xo 1000256),(5,xi d),(6,xo 1000384),(7,xo 1000448),(9,xi e)] [(1,(26,[yi f,yi g,.sn 3 tI h none]))] [(1000256,(⟨3,.int .i64,a,true,false⟩:ac)),(1000384,(⟨3,.int .i64,b,true,false⟩:ac)),(1000448,(⟨3,.int .i64,c,true,false⟩:ac))]
def OB:aa:=⟨[1,4,5,6,7,9],[1],[],[],[(⟨false,4,0⟩,1000256),(⟨false,6,0⟩,1000384),(⟨false,7,0⟩,1000448)]⟩
def qY(a b c:LI)(d e f g h:Int)(i:LI):St:=ah [(1,xb 1),(4,xo 1000256),(5,xi d),(6,xo 1000384),(7,xo 1000448),(9,xi e),(10,xi f)] [(1,(26,[yi g,yi h,.sn 3 tI i none]))] [(1000256,(⟨3,.int .i64,a,true,false⟩:ac)),(1000384,(⟨3,.int .i64,b,true,false⟩:ac)),(1000448,(⟨3,.int .i64,c,true,false⟩:ac))]
def BK:aa:=⟨[1,4,5,6,7,9,10],[1],[],[],[(⟨false,4,0⟩,1000256),(⟨false,6,0⟩,1000384),(⟨false,7,0⟩,1000448)]⟩
def oa(a b:LI)(c d e f:Int)(g:LI):St:=ah [(1,xb 1),(4,xo 1000256),(5,xi c),(6,xo 1000384),(9,xi d)] [(1,(26,[yi e,yi f,.sn 3 tI g none]))] [(1000256,(⟨3,.int .i64,a,true,false⟩:ac)),(1000384,(⟨3,.int .i64,b,true,false⟩:ac))]
def vZ:aa:=⟨[1,4,5,6,9],[1],[],[],[(⟨false,4,0⟩,1000256),(⟨false,6,0⟩,1000384)]⟩
def qZ(a b:LI)(c d e f g:Int)(h:LI):St:=ah [(1,xb 1),(4,xo 1000256),(5,xi c),(6,xo 1000384),(9,xi d),(11,xi e)] [(1,(26,[yi f,yi g,.sn 3 tI h none]))] [(1000256,(⟨3,.int .i64,a,true,false⟩:ac)),(1000384,(⟨3,.int .i64,b,true,false⟩:ac))]
def BL:aa:=⟨[1,4,5,6,9,11],[1],[],[],[(⟨false,4,0⟩,1000256),(⟨false,6,0⟩,1000384)]⟩
def ge(a:LI)(b c d:Int)(e:LI):St:=ah [(1,xb 1),(4,xo 1000256),(12,xi b)] [(1,(26,[yi c,yi d,.sn 3 tI e none]))] [(1000256,(⟨3,.int .i64,a,true,false⟩:ac))]
def jw:aa:=⟨[1,4,12],[1],[],[],[(⟨false,4,0⟩,1000256)]⟩
def q6(a:LI)(b c d e:Int)(f:LI):St:=ah [(1,xb 1),(4,xo 1000256),(12,xi b),(13,xi c)] [(1,(26,[yi d,yi e,.sn 3 tI f none]))] [(1000256,(⟨3,.int .i64,a,true,false⟩:ac))]
def BM:aa:=⟨[1,4,12,13],[1],[],[],[(⟨false,4,0⟩,1000256)]⟩
def l5(a:LI):St:=ah [(4,xo 1000256)] [] [(1000256,(⟨3,.int .i64,a,true,false⟩:ac))]
def v8:aa:=⟨[4],[],[],[],[(⟨false,4,0⟩,1000256)]⟩
def gK(a:LI)(b:Bool):St:=ah [(2,xo 1000128),(3,xB b)] [] [(1000128,(⟨3,.int .i64,a,true,false⟩:ac))]
def OC:aa:=⟨[2,3],[],[⟨⟨false,2,0⟩,30000000,3,.int .i64,true⟩],[],[(⟨false,2,0⟩,1000128)]⟩
def OD:Nat->Option aa:=ay [(2,n9),(4,vZ),(6,iD),(1,iD),(0,qW),(10,jw),(9,jw),(8,v8),(1000000,OC)]
abbrev dD{J:Type}(N n:Nat)(V:St)(l:aa)(K:KT J):Option J:=ak BG be OD N (a6 99 (bf Try.f99) n) .n V (av (some l) K)
def OE N a (K:KT J):dD N 2 (Oz a) OA K =
 aM.Z1 N a (λb c d=>K .nrm (BH b c d)):=by kernel_rfl
def OF N a b c (K:KT J):dD N 5 (BH a b c) qW K =
 aM.Z3 N a b c (λd a b c=>K .nrm (jv d a b c)):=by kernel_rfl
def OG N a b c d (K:KT J):dD N 19 (jv a b c d) iD K =
 aM.Z6 N a b c d (λa e b c d=>K .nrm (eO a e b c d)):=by kernel_rfl
def OH N a e b c d (K:KT J):dD N 139 (eO a e b c d) iD K =
 aM.Z10 N a e b c d (λa e b c d=>K .nrm (eO a e b c d)) (λa b c d=>K (.exit 0) (jv a b c d)):=by kernel_rfl
def OI N a b c d e (K:KT J):dD N 1099 (eO a b c d e) iD K =
 aM.Z14 N a b c d e (λa b c d e=>K .nrm (eO a b c d e)) (λa b c d e=>K (.exit 1) (eO a b c d e)):=by kernel_rfl
def OJ N a b c d e (K:KT J):dD N 2635 (eO a b c d e) n9 K =
 aM.Z16 N a b c d e (λa f g b c d e=>K .nrm (iE a f g b c d e)):=by kernel_rfl
def OK N a b c d e f g (K:KT J):dD N 5707 (iE a b c d e f g) n9 K =
 aM.Z18 N a b c d e f g (λa b c d e f g=>K .nrm (iE a b c d e f g)):=by kernel_rfl
def OL N a b c d e f g (K:KT J):dD N 20043 (iE a b c d e f g) BI K =
 aM.Z21 N a b c d e f g (λa b c d h e f g=>K .nrm (qX a b c d h e f g)):=by kernel_rfl
def OM N a b c d h e f g (K:KT J):dD N 77387 (qX a b c d h e f g) BI K =
 aM.Z24 N a b c d h e f g (λa b c d h e f g=>K .nrm (qX a b c d h e f g)) (λa b c d e f g=>K (.exit 2) (iE a b c d e f g)):=by kernel_rfl
def ON N (K:KT J):=lL K (aM.Z23L N (λa b c d e f g=>K (.exit 2) (iE a b c d e f g))) (λa b c d h e f g k=>aM.Z24 N a b c d h e f g k (λa b c d e f g=>K (.exit 2) (iE a b c d e f g))) (λF a b c d h e f g=>OM N a b c d h e f g _) (by kernel_rfl)
def OO N a b c d e f g h (K:KT J):=vL (qX a b c d e f g h) (ON N (jK n9 K) N a b c d e f g h) (by kernel_rfl)
def OP N a b c d h e f g (K:KT J):=vB 2 n9 K (aM.Z22 N a b c d h e f g (λa b c d e f g=>K .nrm (iE a b c d e f g))) (OO N a b c d h e f g _) (by kernel_rfl)
def OQ N a b c d e f g (K:KT J):=vQ (λk=>aM.Z21 N a b c d e f g k) (OL N a b c d e f g _) (dA λa b c d h e f g=>OP N a b c d h e f g K)
def OR N a b c d e f g (K:KT J):dD N 24139 (iE a b c d e f g) OB K =
 aM.Z26 N a b c d e f g (λa b c d h e f g=>K .nrm (BJ a b c d h e f g)):=by kernel_rfl
def OS N a b c d e f g h (K:KT J):dD N 81483 (BJ a b c d e f g h) BK K =
 aM.Z29 N a b c d e f g h (λa b c d e i f g h=>K .nrm (qY a b c d e i f g h)):=by kernel_rfl
def OT N a b h c d i e f g (K:KT J):dD N 310859 (qY a b h c d i e f g) BK K =
 aM.Z32 N a b h c d i e f g (λa b h c d i e f g=>K .nrm (qY a b h c d i e f g)) (λa b c d e f g=>K (.exit 4) (oa a b c d e f g)):=by kernel_rfl
def OU N (K:KT J):=nC K (aM.Z31L N (λa b c d e f g=>K (.exit 4) (oa a b c d e f g))) (λa b h c d i e f g k=>aM.Z32 N a b h c d i e f g k (λa b c d e f g=>K (.exit 4) (oa a b c d e f g))) (λF a b h c d i e f g=>OT N a b h c d i e f g _) (by kernel_rfl)
def OV N a b c d e f g h i (K:KT J):=vL (qY a b c d e f g h i) (OU N (jK vZ K) N a b c d e f g h i) (by kernel_rfl)
def OW N a b h c d i e f g (K:KT J):=vB 4 vZ K (aM.Z30 N a b h c d i e f g (λa b c d e f g=>K .nrm (oa a b c d e f g))) (OV N a b h c d i e f g _) (by kernel_rfl)
def OX N a b c d e f g h (K:KT J):=vQ (λk=>aM.Z29 N a b c d e f g h k) (OS N a b c d e f g h _) (dB λa b c d e i f g h=>OW N a b c d e i f g h K)
def OY N a b c d e f g (K:KT J):dD N 97867 (oa a b c d e f g) BL K =
 aM.Z34 N a b c d e f g (λa b c d h e f g=>K .nrm (qZ a b c d h e f g)):=by kernel_rfl
def OZ N a f b g h c d e (K:KT J):dD N 327243 (qZ a f b g h c d e) BL K =
 aM.Z37 N a f b g h c d e (λa f b g h c d e=>K .nrm (qZ a f b g h c d e)) (λa b c d e=>K (.exit 6) (eO a b c d e)):=by kernel_rfl
def O0 N (K:KT J):=lL K (aM.Z36L N (λa b c d e=>K (.exit 6) (eO a b c d e))) (λa f b g h c d e k=>aM.Z37 N a f b g h c d e k (λa b c d e=>K (.exit 6) (eO a b c d e))) (λF a f b g h c d e=>OZ N a f b g h c d e _) (by kernel_rfl)
def O1 N a b c d e f g h (K:KT J):=vL (qZ a b c d e f g h) (O0 N (jK iD K) N a b c d e f g h) (by kernel_rfl)
def O3 N a f b g h c d e (K:KT J):=vB 6 iD K (aM.Z35 N a f b g h c d e (λa b c d e=>K .nrm (eO a b c d e))) (O1 N a f b g h c d e _) (by kernel_rfl)
def O4 N a b c d e f g (K:KT J):=vQ (λk=>aM.Z34 N a b c d e f g k) (OY N a b c d e f g _) (dA λa b c d h e f g=>O3 N a b c d h e f g K)
def O5 N a b h c d e f g (K:KT J):=vQ (λk=>aM.Z28 N a b h c d e f g k) (OX N a b h c d e f g _) (eI λa b c d e f g=>O4 N a b c d e f g K)
def O6 N a b c d e f g (K:KT J):=vQ (λk=>aM.Z26 N a b c d e f g k) (OR N a b c d e f g _) (dA λa b c d h e f g=>O5 N a b c d h e f g K)
def O7 N a b c d e f g (K:KT J):=vQ (λk=>aM.Z20 N a b c d e f g k) (OQ N a b c d e f g _) (eI λa b c d e f g=>O6 N a b c d e f g K)
def O8 N a b c d e f g (K:KT J):=vQ (λk=>aM.Z18 N a b c d e f g k) (OK N a b c d e f g _) (eI λa b c d e f g=>O7 N a b c d e f g K)
def O9 N a b c d e (K:KT J):=vQ (λk=>aM.Z16 N a b c d e k) (OJ N a b c d e _) (eI λa f g b c d e=>O8 N a f g b c d e K)
def Pa N a b c d e (K:KT J):=vQ (λk=>aM.Z14 N a b c d e k (λa b c d e=>K (.exit 1) (eO a b c d e))) (OI N a b c d e _) (bZ λa b c d e=>O9 N a b c d e K)
def Pb N a b c d e (K:KT J):=vB 1 iD K (aM.Z12 N a b c d e (λa b c d e=>K .nrm (eO a b c d e))) (Pa N a b c d e _) (by kernel_rfl)
def Pc N a b c d e (K:KT J):dD N 459 (eO a b c d e) iD K =
 aM.Z38 N a b c d e (λa b c d e=>K .nrm (eO a b c d e)):=by kernel_rfl
def Pd N a b c d e (K:KT J):=vQ (λk=>aM.Z12 N a b c d e k) (Pb N a b c d e _) (bZ λa b c d e=>Pc N a b c d e K)
def Pe N a e b c d (K:KT J):=vQ (λk=>aM.Z10 N a e b c d k (λa b c d=>K (.exit 0) (jv a b c d))) (OH N a e b c d _) (bZ λa e b c d=>Pd N a e b c d K)
def Pf N (K:KT J):=ji K (aM.Z8L N (λa b c d=>K (.exit 0) (jv a b c d))) (λa e b c d k=>aM.Z9 N a e b c d k (λa b c d=>K (.exit 0) (jv a b c d))) (λF a e b c d=>Pe N a e b c d _) (by kernel_rfl)
def Pg N a b c d e (K:KT J):=vL (eO a b c d e) (Pf N (jK qW K) N a b c d e) (by kernel_rfl)
def Ph N a e b c d (K:KT J):=vB 0 qW K (aM.Z7 N a e b c d (λa b c d=>K .nrm (jv a b c d))) (Pg N a e b c d _) (by kernel_rfl)
def Pi N a b c d (K:KT J):=vQ (λk=>aM.Z6 N a b c d k) (OG N a b c d _) (bZ λa e b c d=>Ph N a e b c d K)
def Pj N a b c d (K:KT J):dD N 39 (jv a b c d) jw K =
 aM.Z41 N a b c d (λa e b c d=>K .nrm (ge a e b c d)):=by kernel_rfl
def Pk N a b c d e (K:KT J):dD N 279 (ge a b c d e) jw K =
 aM.Z45 N a b c d e (λa b c d e=>K .nrm (ge a b c d e)) (λa=>K (.exit 8) (l5 a)):=by kernel_rfl
def Pl N a b c d e (K:KT J):dD N 2199 (ge a b c d e) BM K =
 aM.Z49 N a b c d e (λa b f c d e=>K .nrm (q6 a b f c d e)):=by kernel_rfl
def Pm N a b f c d e (K:KT J):dD N 9367 (q6 a b f c d e) BM K =
 aM.Z52 N a b f c d e (λa b f c d e=>K .nrm (q6 a b f c d e)) (λa b c d e=>K (.exit 10) (ge a b c d e)) (λg h=>K .ret (gK g h)):=by kernel_rfl
def Pn N (K:KT J):=nB K (aM.Z51L N (λa b c d e=>K (.exit 10) (ge a b c d e)) (λf g=>K .ret (gK f g))) (λa b h c d e k=>aM.Z52 N a b h c d e k (λa b c d e=>K (.exit 10) (ge a b c d e)) (λf g=>K .ret (gK f g))) (λF a b h c d e=>Pm N a b h c d e _) (by kernel_rfl)
def Po N a b c d e f (K:KT J):=vL (q6 a b c d e f) (Pn N (jK jw K) N a b c d e f) (by kernel_rfl)
def Pp N a b f c d e (K:KT J):=vB 10 jw K (aM.Z50 N a b f c d e (λa b c d e=>K .nrm (ge a b c d e)) (λg h=>K .ret (gK g h))) (Po N a b f c d e _) (by kernel_rfl)
def Pq N a b c d e (K:KT J):=vQ (λk=>aM.Z49 N a b c d e k) (Pl N a b c d e _) (dz λa b f c d e=>Pp N a b f c d e K)
def Pr N a b c d e (K:KT J):=vB 9 jw K (aM.Z47 N a b c d e (λa b c d e=>K .nrm (ge a b c d e)) (λf g=>K .ret (gK f g))) (Pq N a b c d e _) (by kernel_rfl)
def Ps N a b c d e (K:KT J):dD N 919 (ge a b c d e) jw K =
 aM.Z53 N a b c d e (λa b c d e=>K .nrm (ge a b c d e)):=by kernel_rfl
def Pt N a b c d e (K:KT J):=vQ (λk=>aM.Z47 N a b c d e k (λf g=>K .ret (gK f g))) (Pr N a b c d e _) (bZ λa b c d e=>Ps N a b c d e K)
def Pu N a b c d e (K:KT J):=vQ (λk=>aM.Z45 N a b c d e k (λa=>K (.exit 8) (l5 a))) (Pk N a b c d e _) (bZ λa b c d e=>Pt N a b c d e K)
def Pv N (K:KT J):=ji K (aM.Z43L N (λa=>K (.exit 8) (l5 a)) (λb c=>K .ret (gK b c))) (λa d e f g k=>aM.Z44 N a d e f g k (λa=>K (.exit 8) (l5 a)) (λb c=>K .ret (gK b c))) (λF a d e f g=>Pu N a d e f g _) (by kernel_rfl)
def Pw N a b c d e (K:KT J):=vL (ge a b c d e) (Pv N (jK v8 K) N a b c d e) (by kernel_rfl)
def Px N a b c d e (K:KT J):=vB 8 v8 K (aM.Z42 N a b c d e (λa=>K .nrm (l5 a)) (λf g=>K .ret (gK f g))) (Pw N a b c d e _) (by kernel_rfl)
def Py N a b c d (K:KT J):=vQ (λk=>aM.Z41 N a b c d k) (Pj N a b c d _) (bZ λa e b c d=>Px N a e b c d K)
def Pz N a (K:KT J):dD N 31 (l5 a) Oy K =
 aM.Z54 N a (λb c=>K .ret (gK b c)):=by kernel_rfl
def PA N a b c d (K:KT J):=vQ (λk=>aM.Z40 N a b c d k (λe f=>K .ret (gK e f))) (Py N a b c d _) (funext λa=>Pz N a K)
def PB N a b c d (K:KT J):=vQ (λk=>aM.Z5 N a b c d k) (Pi N a b c d _) (dQ λa b c d=>PA N a b c d K)
def PC N a b c (K:KT J):=vQ (λk=>aM.Z3 N a b c k) (OF N a b c _) (dQ λd a b c=>PB N d a b c K)
def PD N a (K:KT J):=vQ (λk=>aM.Z1 N a k) (OE N a _) (dP λb c d=>PC N b c d K)
def PE(h:aM.Spec):aB Try.prog 99 vY :=
 bI Try.func99 bg Ox (λN X K=>PD N X.1 K) (by kernel_rfl) λX hb hp=>by obtain⟨a,_⟩:=X;obtain⟨N,h⟩:=h a hb.1 hp;exact⟨N,Eq.trans (by kernel_rfl) (h N (Nat.le_refl N))⟩
def PF:aB Try.prog 99 vY:=PE aM.ok
def BN:bv:=⟨[⟨.pair (.int .i64) (.pair (.int .i64) (.sl 3 (.int .i64))),true,false⟩],[⟨.bool,false,false⟩]⟩
def q7:aW:=⟨BN,none,λX=>((),((gM.g X.1),()))⟩
def BO:Gm:=aR (aR ba 78 nY) 99 vY
def PG:aq Try.prog BO:=((aq.nil).add vN (by kernel_rfl)).add PF (by kernel_rfl)
def PH:aa:=⟨[],[],[],[],[]⟩
def PI(a:MT):St:=bz BN.ps (a,())
def PJ(a:Bool):St:=ah [(2,xB a)] [] []
def PK:aa:=⟨[2],[],[],[],[]⟩
def PL:Nat->Option aa:=ay [(1000000,PK)]
abbrev PM{J:Type}(N n:Nat)(V:St)(l:aa)(K:KT J):Option J:=ak BO be PL N (a6 99 (bf Try.f72) n) .n V (av (some l) K)
def PN N a (K:KT J):PM N 1 (PI a) PH K =
 gM.Z0 N a (λb=>K .ret (PJ b)):=by kernel_rfl
def PO(h:gM.Spec):aB Try.prog 72 q7 :=
 bI Try.func72 bg PG (λN X K=>PN N X.1 K) (by kernel_rfl) λX hb hp=>by obtain⟨a,_⟩:=X;obtain⟨N,h⟩:=h a hb.1;exact⟨N,Eq.trans (by kernel_rfl) (h N (Nat.le_refl N))⟩
def BP:aB Try.prog 72 q7:=PO gM.ok
def BQ:bv:=⟨[⟨.sl 3 (.int .i64),false,false⟩],[⟨.sl 3 (.int .i64),false,false⟩]⟩
def ob:aW:=⟨BQ,(some λX=>dv.P X.1),λX=>((),((dv.g X.1),()))⟩
def BR:Gm:=ba
def PP:aq Try.prog BR:=aq.nil
def PQ:aa:=⟨[],[],[],[],[]⟩
def PR(a:LI):St:=bz BQ.ps (a,())
def PS(a:LI):St:=ah [(2,xo 1000128)] [] [(1000128,(⟨3,.int .i64,a,true,false⟩:ac))]
def PU:aa:=⟨[2],[],[],[],[(⟨false,2,0⟩,1000128)]⟩
def PV:Nat->Option aa:=ay [(1000000,PU)]
abbrev PW{J:Type}(N n:Nat)(V:St)(l:aa)(K:KT J):Option J:=ak BR be PV N (a6 99 (bf Try.f98) n) .n V (av (some l) K)
def PX N a (K:KT J):PW N 1 (PR a) PQ K =
 dv.Z0 N a (λb=>K .ret (PS b)):=by kernel_rfl
def PY(h:dv.Spec):aB Try.prog 98 ob :=
 bI Try.func98 bg PP (λN X K=>PX N X.1 K) (by kernel_rfl) λX hb hp=>by obtain⟨a,_⟩:=X;obtain⟨N,h⟩:=h a hb.1 hp;exact⟨N,Eq.trans (by kernel_rfl) (h N (Nat.le_refl N))⟩
def v9:aB Try.prog 98 ob:=PY dv.ok
def BS:bv:=⟨[⟨.pair (.int .i64) (.pair (.int .i64) (.sl 3 (.int .i64))),true,false⟩],[⟨.pair (.int .i64) (.pair (.int .i64) (.sl 3 (.int .i64))),true,false⟩]⟩
def oc:aW:=⟨BS,(some λX=>dj.P X.1),λX=>((),((dj.g X.1),()))⟩
def BT:Gm:=aR ba 98 ob
def PZ:aq Try.prog BT:=(aq.nil).add v9 (by kernel_rfl)
def P0:aa:=⟨[],[],[],[],[]⟩
def P1(a:MT):St:=bz BS.ps (a,())
def P2(a:LI)(b c:Int):St:=ah [(2,xb 2)] [(2,(26,[yi b,yi c,.own 20000130]))] [(20000130,(⟨3,.int .i64,a,true,false⟩:ac))]
def P3:aa:=⟨[2],[2],[],[],[(⟨true,2,2⟩,20000130)]⟩
def P4:Nat->Option aa:=ay [(1000000,P3)]
abbrev P5{J:Type}(N n:Nat)(V:St)(l:aa)(K:KT J):Option J:=ak BT be P4 N (a6 99 (bf Try.f83) n) .n V (av (some l) K)
def P6 N a (K:KT J):P5 N 1 (P1 a) P0 K =
 dj.Z0 N a (λb c d=>K .ret (P2 b c d)):=by kernel_rfl
def P7(h:dj.Spec):aB Try.prog 83 oc :=
 bI Try.func83 bg PZ (λN X K=>P6 N X.1 K) (by kernel_rfl) λX hb hp=>by obtain⟨a,_⟩:=X;obtain⟨N,h⟩:=h a hb.1 hp;exact⟨N,Eq.trans (by kernel_rfl) (h N (Nat.le_refl N))⟩
def wb:aB Try.prog 83 oc:=P7 dj.ok
def BU:bv:=⟨[⟨.pair (.int .i64) (.pair (.int .i64) (.sl 3 (.int .i64))),true,false⟩,⟨.int .i64,false,false⟩],[⟨.pair (.int .i64) (.pair (.int .i64) (.sl 3 (.int .i64))),true,false⟩]⟩
def q8:aW:=⟨BU,(some λX=>bq.P X.1 X.2.1),λX=>((),((bq.g X.1 X.2.1),()))⟩
def BV:Gm:=aR (aR ba 75 kQ) 83 oc
def P8:aq Try.prog BV:=((aq.nil).add nX (by kernel_rfl)).add wb (by kernel_rfl)
def P9:aa:=⟨[],[],[],[],[]⟩
def Qa(a:MT)(b:Int):St:=bz BU.ps (a,(b,()))
def BW(a b c:Int)(d:LI)(e f:Int):St:=ah [(1,xi a),(2,xb 2),(4,xb 4)] [(2,(26,[yi b,yi c,.sn 3 tI d none])),(4,(26,[yi e,yi f,.nil]))] []
def Qb:aa:=⟨[1,2,4],[2,4],[],[],[]⟩
def BX(a:LI)(b c d:Int)(e:LI)(f g h i:Int):St:=ah [(1,xi b),(2,xb 2),(4,xb 4),(5,xb 5)] [(2,(26,[yi c,yi d,.sn 3 tI e none])),(4,(26,[yi f,yi g,.nil])),(5,(26,[yi h,yi i,.own 20000322]))] [(20000322,(⟨3,.int .i64,a,true,false⟩:ac))]
def Qc:aa:=⟨[1,2,4,5],[2,4,5],[],[],[(⟨true,5,2⟩,20000322)]⟩
def fN(a:LI)(b c d e:Int)(f:LI)(g h i j:Int):St:=ah [(1,xi b),(2,xb 2),(4,xb 4),(5,xb 5),(6,xi c)] [(2,(26,[yi d,yi e,.sn 3 tI f none])),(4,(26,[yi g,yi h,.nil])),(5,(26,[yi i,yi j,.own 20000322]))] [(20000322,(⟨3,.int .i64,a,true,false⟩:ac))]
def jx:aa:=⟨[1,2,4,5,6],[2,4,5],[],[],[(⟨true,5,2⟩,20000322)]⟩
def g9(a:LI)(b c d e f:Int)(g:LI)(h i j l:Int):St:=ah [(1,xi b),(2,xb 2),(4,xb 4),(5,xb 5),(6,xi c),(7,xi d)] [(2,(26,[yi e,yi f,.sn 3 tI g none])),(4,(26,[yi h,yi i,.nil])),(5,(26,[yi j,yi l,.own 20000322]))] [(20000322,(⟨3,.int .i64,a,true,false⟩:ac))]
def jy:aa:=⟨[1,2,4,5,6,7],[2,4,5],[],[],[(⟨true,5,2⟩,20000322)]⟩
def BY(a:LI)(b c d e f g:Int)(h:LI)(i j l m:Int):St:=ah [(1,xi b),(2,xb 2),(4,xb 4),(5,xb 5),(6,xi c),(7,xi d),(8,xi e)] [(2,(26,[yi f,yi g,.sn 3 tI h none])),(4,(26,[yi i,yi j,.nil])),(5,(26,[yi l,yi m,.own 20000322]))] [(20000322,(⟨3,.int .i64,a,true,false⟩:ac))]
def Qd:aa:=⟨[1,2,4,5,6,7,8],[2,4,5],[],[],[(⟨true,5,2⟩,20000322)]⟩
def BZ(a:LI)(b c d e f g h:Int)(i:LI)(j l m o:Int):St:=ah [(1,xi b),(2,xb 2),(4,xb 4),(5,xb 5),(6,xi c),(7,xi d),(8,xi e),(9,xi f)] [(2,(26,[yi g,yi h,.sn 3 tI i none])),(4,(26,[yi j,yi l,.nil])),(5,(26,[yi m,yi o,.own 20000322]))] [(20000322,(⟨3,.int .i64,a,true,false⟩:ac))]
def Qe:aa:=⟨[1,2,4,5,6,7,8,9],[2,4,5],[],[],[(⟨true,5,2⟩,20000322)]⟩
def B1(a:LI)(b c d e f:Int)(g:Bool)(h i:Int)(j:LI)(l m o p:Int):St:=ah [(1,xi b),(2,xb 2),(4,xb 4),(5,xb 5),(6,xi c),(7,xi d),(8,xi e),(9,xi f),(32,xB g)] [(2,(26,[yi h,yi i,.sn 3 tI j none])),(4,(26,[yi l,yi m,.nil])),(5,(26,[yi o,yi p,.own 20000322]))] [(20000322,(⟨3,.int .i64,a,true,false⟩:ac))]
def Qf:aa:=⟨[1,2,4,5,6,7,8,9,32],[2,4,5],[],[],[(⟨true,5,2⟩,20000322)]⟩
def l7(a:LI)(b c d e:Int):St:=ah [(4,xb 4),(5,xb 5)] [(4,(26,[yi b,yi c,.nil])),(5,(26,[yi d,yi e,.own 20000322]))] [(20000322,(⟨3,.int .i64,a,true,false⟩:ac))]
def wd:aa:=⟨[4,5],[4,5],[],[],[(⟨true,5,2⟩,20000322)]⟩
def Qg(a:LI)(b c:Int):St:=ah [(4,xb 4)] [(4,(26,[yi b,yi c,.own 20000258]))] [(20000258,(⟨3,.int .i64,a,true,false⟩:ac))]
def Qh:aa:=⟨[4],[4],[],[],[(⟨true,4,2⟩,20000258)]⟩
def Qi:Nat->Option aa:=ay [(4,jy),(3,jy),(2,jx),(1,jx),(0,wd),(1000000,Qh)]
abbrev fO{J:Type}(N n:Nat)(V:St)(l:aa)(K:KT J):Option J:=ak BV be Qi N (a6 99 (bf Try.f77) n) .n V (av (some l) K)
def Qj N b a (K:KT J):fO N 2 (Qa b a) Qb K =
 bq.Z1 N b a (λa c d e f g=>K .nrm (BW a c d e f g)):=by kernel_rfl
def Qk N a b c d e f (K:KT J):fO N 5 (BW a b c d e f) Qc K =
 bq.Z3 N a b c d e f (λg a b c d e f h i=>K .nrm (BX g a b c d e f h i)):=by kernel_rfl
def Ql N a b c d e f g h i (K:KT J):fO N 19 (BX a b c d e f g h i) jx K =
 bq.Z6 N a b c d e f g h i (λa b j c d e f g h i=>K .nrm (fN a b j c d e f g h i)):=by kernel_rfl
def Qm N a f g h i j b c d e (K:KT J):fO N 139 (fN a f g h i j b c d e) jx K =
 bq.Z10 N a f g h i j b c d e (λa f g h i j b c d e=>K .nrm (fN a f g h i j b c d e)) (λa b c d e=>K (.exit 0) (l7 a b c d e)):=by kernel_rfl
def Qn N a b c d e f g h i j (K:KT J):fO N 1099 (fN a b c d e f g h i j) jy K =
 bq.Z14 N a b c d e f g h i j (λa b c l d e f g h i j=>K .nrm (g9 a b c l d e f g h i j)):=by kernel_rfl
def Qo N a b c l d e f g h i j (K:KT J):fO N 8779 (g9 a b c l d e f g h i j) jy K =
 bq.Z18 N a b c l d e f g h i j (λa b c l d e f g h i j=>K .nrm (g9 a b c l d e f g h i j)) (λa b c d e f g h i j=>K (.exit 2) (fN a b c d e f g h i j)):=by kernel_rfl
def Qp N a b c d e f g h i j l (K:KT J):fO N 70219 (g9 a b c d e f g h i j l) Qd K =
 bq.Z22 N a b c d e f g h i j l (λa b c d m e f g h i j l=>K .nrm (BY a b c d m e f g h i j l)):=by kernel_rfl
def Qq N a b c d e f g h i j l m (K:KT J):fO N 168523 (BY a b c d e f g h i j l m) Qe K =
 bq.Z24 N a b c d e f g h i j l m (λa b c d e o f g h i j l m=>K .nrm (BZ a b c d e o f g h i j l m)):=by kernel_rfl
def Qr N a b c d e f g h i j l m o (K:KT J):fO N 627275 (BZ a b c d e f g h i j l m o) Qf K =
 bq.Z27 N a b c d e f g h i j l m o (λa b c d e f p g h i j l m o=>K .nrm (B1 a b c d e f p g h i j l m o)):=by kernel_rfl
def Qs N a b c d m o p e f g h i j l (K:KT J):fO N 889419 (B1 a b c d m o p e f g h i j l) jy K =
 bq.Z28 N a b c d m o p e f g h i j l (λa b c d e f g h i j l=>K .nrm (g9 a b c d e f g h i j l)):=by kernel_rfl
def Qt N a b c d e f g h i j l m o (K:KT J):=vQ (λk=>bq.Z27 N a b c d e f g h i j l m o k) (Qr N a b c d e f g h i j l m o _) (p5 λa b c d e f p g h i j l m o=>Qs N a b c d e f p g h i j l m o K)
def Qu N a b c d m o e f g h i j l (K:KT J):=vB 4 jy K (bq.Z25 N a b c d m o e f g h i j l (λa b c d e f g h i j l=>K .nrm (g9 a b c d e f g h i j l))) (Qt N a b c d m o e f g h i j l _) (by kernel_rfl)
def Qv N a b c d e f g h i j l m (K:KT J):=vQ (λk=>bq.Z24 N a b c d e f g h i j l m k) (Qq N a b c d e f g h i j l m _) (nA λa b c d e o f g h i j l m=>Qu N a b c d e o f g h i j l m K)
def Qw N a b c d e f g h i j l (K:KT J):=vQ (λk=>bq.Z22 N a b c d e f g h i j l k) (Qp N a b c d e f g h i j l _) (nz λa b c d m e f g h i j l=>Qv N a b c d m e f g h i j l K)
def Qx N a b c d e f g h i j l (K:KT J):=vB 3 jy K (bq.Z20 N a b c d e f g h i j l (λa b c d e f g h i j l=>K .nrm (g9 a b c d e f g h i j l))) (Qw N a b c d e f g h i j l _) (by kernel_rfl)
def Qy N a b c d e f g h i j l (K:KT J):fO N 29259 (g9 a b c d e f g h i j l) jy K =
 bq.Z29 N a b c d e f g h i j l (λa b c d e f g h i j l=>K .nrm (g9 a b c d e f g h i j l)):=by kernel_rfl
def Qz N a b c d e f g h i j l (K:KT J):=vQ (λk=>bq.Z20 N a b c d e f g h i j l k) (Qx N a b c d e f g h i j l _) (gB λa b c d e f g h i j l=>Qy N a b c d e f g h i j l K)
def QA N a b c l d e f g h i j (K:KT J):=vQ (λk=>bq.Z18 N a b c l d e f g h i j k (λa b c d e f g h i j=>K (.exit 2) (fN a b c d e f g h i j))) (Qo N a b c l d e f g h i j _) (gB λa b c l d e f g h i j=>Qz N a b c l d e f g h i j K)
def QB N (K:KT J):=p6 K (bq.Z16L N (λa b c d e f g h i j=>K (.exit 2) (fN a b c d e f g h i j))) (λa b c l d e f g h i j k=>bq.Z17 N a b c l d e f g h i j k (λa b c d e f g h i j=>K (.exit 2) (fN a b c d e f g h i j))) (λF a b c l d e f g h i j=>QA N a b c l d e f g h i j _) (by kernel_rfl)
def QC N a b c d e f g h i j l (K:KT J):=vL (g9 a b c d e f g h i j l) (QB N (jK jx K) N a b c d e f g h i j l) (by kernel_rfl)
def QD N a b c l d e f g h i j (K:KT J):=vB 2 jx K (bq.Z15 N a b c l d e f g h i j (λa b c d e f g h i j=>K .nrm (fN a b c d e f g h i j))) (QC N a b c l d e f g h i j _) (by kernel_rfl)
def QE N a b c d e f g h i j (K:KT J):=vQ (λk=>bq.Z14 N a b c d e f g h i j k) (Qn N a b c d e f g h i j _) (gB λa b c l d e f g h i j=>QD N a b c l d e f g h i j K)
def QF N a b c d e f g h i j (K:KT J):=vB 1 jx K (bq.Z12 N a b c d e f g h i j (λa b c d e f g h i j=>K .nrm (fN a b c d e f g h i j))) (QE N a b c d e f g h i j _) (by kernel_rfl)
def QG N a b c d e f g h i j (K:KT J):fO N 459 (fN a b c d e f g h i j) jx K =
 bq.Z30 N a b c d e f g h i j (λa b c d e f g h i j=>K .nrm (fN a b c d e f g h i j)):=by kernel_rfl
def QH N a b c d e f g h i j (K:KT J):=vQ (λk=>bq.Z12 N a b c d e f g h i j k) (QF N a b c d e f g h i j _) (dC λa b c d e f g h i j=>QG N a b c d e f g h i j K)
def QI N a f g h i j b c d e (K:KT J):=vQ (λk=>bq.Z10 N a f g h i j b c d e k (λa b c d e=>K (.exit 0) (l7 a b c d e))) (Qm N a f g h i j b c d e _) (dC λa f g h i j b c d e=>QH N a f g h i j b c d e K)
def QJ N (K:KT J):=iq K (bq.Z8L N (λa b c d e=>K (.exit 0) (l7 a b c d e))) (λa f g h i j b c d e k=>bq.Z9 N a f g h i j b c d e k (λa b c d e=>K (.exit 0) (l7 a b c d e))) (λF a f g h i j b c d e=>QI N a f g h i j b c d e _) (by kernel_rfl)
def QK N a b c d e f g h i j (K:KT J):=vL (fN a b c d e f g h i j) (QJ N (jK wd K) N a b c d e f g h i j) (by kernel_rfl)
def QL N a f g h i j b c d e (K:KT J):=vB 0 wd K (bq.Z7 N a f g h i j b c d e (λa b c d e=>K .nrm (l7 a b c d e))) (QK N a f g h i j b c d e _) (by kernel_rfl)
def QM N a b c d e f g h i (K:KT J):=vQ (λk=>bq.Z6 N a b c d e f g h i k) (Ql N a b c d e f g h i _) (dC λa b j c d e f g h i=>QL N a b j c d e f g h i K)
def QN N c a b d e (K:KT J):fO N 15 (l7 c a b d e) P9 K =
 bq.Z31 N c a b d e (λf a b=>K .ret (Qg f a b)):=by kernel_rfl
def QO N a f g h i b c d e (K:KT J):=vQ (λk=>bq.Z5 N a f g h i b c d e k) (QM N a f g h i b c d e _) (bZ λa b c d e=>QN N a b c d e K)
def QP N a b c d e f (K:KT J):=vQ (λk=>bq.Z3 N a b c d e f k) (Qk N a b c d e f _) (dB λg a b c d e f h i=>QO N g a b c d e f h i K)
def QQ N b a (K:KT J):=vQ (λk=>bq.Z1 N b a k) (Qj N b a _) (dz λa c d e f g=>QP N a c d e f g K)
def QR(h:bq.Spec):aB Try.prog 77 q8 :=
 bI Try.func77 bg P8 (λN X K=>QQ N X.1 X.2.1 K) (by kernel_rfl) λX hb hp=>by obtain⟨a,b,_⟩:=X;obtain⟨N,h⟩:=h a b hb.1 hp;exact⟨N,Eq.trans (by kernel_rfl) (h N (Nat.le_refl N))⟩
def B2:aB Try.prog 77 q8:=QR bq.ok
def B3:bv:=⟨[⟨.pair (.int .i64) (.pair (.int .i64) (.sl 3 (.int .i64))),true,false⟩,⟨.int .i64,false,false⟩],[⟨.pair (.int .i64) (.pair (.int .i64) (.sl 3 (.int .i64))),true,false⟩,⟨.bool,false,false⟩]⟩
def we:aW:=⟨B3,none,λX=>((),((eA.g X.1 X.2.1).1,((eA.g X.1 X.2.1).2,())))⟩
def B4:Gm:=aR (aR (aR (aR ba 72 q7) 76 qP) 77 q8) 78 nY
def QS:aq Try.prog B4:=((((aq.nil).add BP (by kernel_rfl)).add Bj (by kernel_rfl)).add B2 (by kernel_rfl)).add vN (by kernel_rfl)
def QT:aa:=⟨[],[],[],[],[]⟩
def QU(a:MT)(b:Int):St:=bz B3.ps (a,(b,()))
def QV(a:LI)(b:Bool)(c d:Int):St:=ah [(4,xb 4),(5,xB b)] [(4,(26,[yi c,yi d,.own 20000258]))] [(20000258,(⟨3,.int .i64,a,true,false⟩:ac))]
def QW:aa:=⟨[4,5],[4],[⟨⟨true,4,2⟩,30000000,3,.int .i64,true⟩],[],[(⟨true,4,2⟩,20000258)]⟩
def QX:Nat->Option aa:=ay [(1000000,QW)]
abbrev QY{J:Type}(N n:Nat)(V:St)(l:aa)(K:KT J):Option J:=ak B4 be QX N (a6 99 (bf Try.f39) n) .n V (av (some l) K)
def QZ N a b (K:KT J):QY N 1 (QU a b) QT K =
 eA.Z0 N a b (λc d e f=>K .ret (QV c d e f)):=by kernel_rfl
def Q0(h:eA.Spec):aB Try.prog 39 we :=
 bI Try.func39 bg QS (λN X K=>QZ N X.1 X.2.1 K) (by kernel_rfl) λX hb hp=>by obtain⟨a,b,_⟩:=X;obtain⟨N,h⟩:=h a b hb.1;exact⟨N,Eq.trans (by kernel_rfl) (h N (Nat.le_refl N))⟩
def Q1:aB Try.prog 39 we:=Q0 eA.ok
def B5:cO:=⟨94,[(5,.int .u8)],.pair (.int .i64) (.int .i64)⟩
def B6:List PT:=[⟨.int .i64,false,false⟩]
def Q2:List PT:=[⟨.sl 3 (.int .i64),false,false⟩]
def wg:dM:=⟨B5,B6,true,Q2,(some λX=>bY.P X.1.1.1 X.1.2 X.2.1),λX=>((bY.g X.1.1.1 X.1.2 X.2.1).1,((),((bY.g X.1.1.1 X.1.2 X.2.1).2,())))⟩
def B7:Gm:=addV ba 94 kM
def Q3:aq Try.prog B7:=(aq.nil).addV nT (by kernel_rfl)
def Q4:aa:=⟨[],[],[],[],[]⟩
def Q5(u0:Value)(b0:List Int)(r0:Int×Int)(a:Int):St:=dr B5 B6 [u0] (((b0,()),r0),(a,()))
def B8(u0:Value)(a:Int)(b:List Int)(c d:Int):St:=ah [(0,xb 100000),(1,xi a),(100000,xb 100000)] [(100000,(94,[.bor u0 5 (.int .u8) b,yi c,yi d]))] []
def Q6:aa:=⟨[0,1,100000],[100000],[],[],[]⟩
def B9(u0:Value)(a:LI)(b:Int)(c:List Int)(d e:Int):St:=ah [(0,xb 100000),(1,xi b),(5,xo 1000320),(100000,xb 100000)] [(100000,(94,[.bor u0 5 (.int .u8) c,yi d,yi e]))] [(1000320,(⟨3,.int .i64,a,true,false⟩:ac))]
def Q7:aa:=⟨[0,1,5,100000],[100000],[],[],[(⟨false,5,0⟩,1000320)]⟩
def q9(u0:Value)(a:LI)(b c:Int)(d:List Int)(e f:Int):St:=ah [(0,xb 100000),(1,xi b),(5,xo 1000320),(6,xi c),(100000,xb 100000)] [(100000,(94,[.bor u0 5 (.int .u8) d,yi e,yi f]))] [(1000320,(⟨3,.int .i64,a,true,false⟩:ac))]
def Ca:aa:=⟨[0,1,5,6,100000],[100000],[],[],[(⟨false,5,0⟩,1000320)]⟩
def od(u0:Value)(a:LI)(b:List Int)(c d:Int):St:=ah [(5,xo 1000320),(100000,xb 100000)] [(100000,(94,[.bor u0 5 (.int .u8) b,yi c,yi d]))] [(1000320,(⟨3,.int .i64,a,true,false⟩:ac))]
def wh:aa:=⟨[5,100000],[100000],[],[],[(⟨false,5,0⟩,1000320)]⟩
def Q8(u0:Value)(a:LI)(b:List Int)(c d:Int):St:=ah [(4,xo 1000256),(100000,xb 100000)] [(100000,(94,[.bor u0 5 (.int .u8) b,yi c,yi d]))] [(1000256,(⟨3,.int .i64,a,true,false⟩:ac))]
def Q9:aa:=⟨[4,100000],[100000],[],[],[(⟨false,4,0⟩,1000256)]⟩
def Ra:Nat->Option aa:=ay [(0,wh),(1000000,Q9)]
abbrev og{J:Type}(N n:Nat)(V:St)(l:aa)(K:KT J):Option J:=ak B7 be Ra N (a6 99 (bf Try.f111) n) .n V (av (some l) K)
def Rb N u0 b0 r0 a (K:KT J):og N 2 (Q5 u0 b0 r0 a) Q6 K =
 bY.Z1 N b0 r0 a (λa b c d=>K .nrm (B8 u0 a b c d)):=by kernel_rfl
def Rc N u0 a b c d (K:KT J):og N 5 (B8 u0 a b c d) Q7 K =
 bY.Z3 N a b c d (λe a b c d=>K .nrm (B9 u0 e a b c d)):=by kernel_rfl
def Re N u0 a b c d e (K:KT J):og N 19 (B9 u0 a b c d e) Ca K =
 bY.Z6 N a b c d e (λa b f c d e=>K .nrm (q9 u0 a b f c d e)):=by kernel_rfl
def Rg N u0 a e f b c d (K:KT J):og N 75 (q9 u0 a e f b c d) Ca K =
 bY.Z9 N a e f b c d (λa e f b c d=>K .nrm (q9 u0 a e f b c d)) (λa b c d=>K (.exit 0) (od u0 a b c d)):=by kernel_rfl
def Rh N u0 (K:KT J):=nB K (bY.Z8L N (λa b c d=>K (.exit 0) (od u0 a b c d))) (λa e f b c d k=>bY.Z9 N a e f b c d k (λa b c d=>K (.exit 0) (od u0 a b c d))) (λF a e f b c d=>Rg N u0 a e f b c d _) (by kernel_rfl)
def Ri N u0 a b c d e f (K:KT J):=vL (q9 u0 a b c d e f) (Rh N u0 (jK wh K) N a b c d e f) (by kernel_rfl)
def Rj N u0 a e f b c d (K:KT J):=vB 0 wh K (bY.Z7 N a e f b c d (λa b c d=>K .nrm (od u0 a b c d))) (Ri N u0 a e f b c d _) (by kernel_rfl)
def Rk N u0 a b c d e (K:KT J):=vQ (λk=>bY.Z6 N a b c d e k) (Re N u0 a b c d e _) (dz λa b f c d e=>Rj N u0 a b f c d e K)
def Rl N u0 d a b c (K:KT J):og N 15 (od u0 d a b c) Q4 K =
 bY.Z10 N d a b c (λe a b c=>K .ret (Q8 u0 e a b c)):=by kernel_rfl
def Rm N u0 a e b c d (K:KT J):=vQ (λk=>bY.Z5 N a e b c d k) (Rk N u0 a e b c d _) (dQ λa b c d=>Rl N u0 a b c d K)
def Rn N u0 a b c d (K:KT J):=vQ (λk=>bY.Z3 N a b c d k) (Rc N u0 a b c d _) (bZ λe a b c d=>Rm N u0 e a b c d K)
def Ro N u0 b0 r0 a (K:KT J):=vQ (λk=>bY.Z1 N b0 r0 a k) (Rb N u0 b0 r0 a _) (dQ λa b c d=>Rn N u0 a b c d K)
def Rp(h:bY.Spec):db Try.prog 111 wg :=
 ir Try.func111 bg Q3 (λN u X K=>Ro N u X.1.1.1 X.1.2 X.2.1 K) (by kernel_rfl) λu0 X hb1 hb2 hp=>by obtain⟨⟨⟨b0,_⟩,r0⟩,a,_⟩:=X;obtain⟨N,h⟩:=h [u0] b0 r0 a hb1.1 hp;exact⟨N,Eq.trans (by kernel_rfl) (h N (Nat.le_refl N))⟩
def Rq:db Try.prog 111 wg:=Rp bY.ok
def Cb:bv:=⟨[⟨.pair (.int .i64) (.pair (.int .i64) (.sl 3 (.int .i64))),true,false⟩,⟨.sl 3 (.int .i64),false,false⟩],[⟨.pair (.int .i64) (.pair (.int .i64) (.sl 3 (.int .i64))),true,false⟩]⟩
def wi:aW:=⟨Cb,(some λX=>bP.P X.1 X.2.1),λX=>((),((bP.g X.1 X.2.1),()))⟩
def Cc:Gm:=aR (aR ba 75 kQ) 83 oc
def Rr:aq Try.prog Cc:=((aq.nil).add nX (by kernel_rfl)).add wb (by kernel_rfl)
def Rs:aa:=⟨[],[],[],[],[]⟩
def Rt(a:MT)(b:LI):St:=bz Cb.ps (a,(b,()))
def Cd(a:LI)(b d:Int)(e:LI)(f g:Int):St:=ah [(1,.c (.sn 3 tI a none)),(2,xb 2),(4,xb 4)] [(2,(26,[yi b,yi d,.sn 3 tI e none])),(4,(26,[yi f,yi g,.nil]))] []
def Ru:aa:=⟨[1,2,4],[2,4],[],[],[]⟩
def Ce(a b:LI)(d e:Int)(f:LI)(g h i j:Int):St:=ah [(1,.c (.sn 3 tI b none)),(2,xb 2),(4,xb 4),(5,xb 5)] [(2,(26,[yi d,yi e,.sn 3 tI f none])),(4,(26,[yi g,yi h,.nil])),(5,(26,[yi i,yi j,.own 20000322]))] [(20000322,(⟨3,.int .i64,a,true,false⟩:ac))]
def Rv:aa:=⟨[1,2,4,5],[2,4,5],[],[],[(⟨true,5,2⟩,20000322)]⟩
def gf(a b:LI)(d e f:Int)(g:LI)(h i j l:Int):St:=ah [(1,.c (.sn 3 tI b none)),(2,xb 2),(4,xb 4),(5,xb 5),(6,xi d)] [(2,(26,[yi e,yi f,.sn 3 tI g none])),(4,(26,[yi h,yi i,.nil])),(5,(26,[yi j,yi l,.own 20000322]))] [(20000322,(⟨3,.int .i64,a,true,false⟩:ac))]
def jz:aa:=⟨[1,2,4,5,6],[2,4,5],[],[],[(⟨true,5,2⟩,20000322)]⟩
def ra(a b:LI)(d e f g:Int)(h:LI)(i j l m:Int):St:=ah [(1,.c (.sn 3 tI b none)),(2,xb 2),(4,xb 4),(5,xb 5),(6,xi d),(7,xi e)] [(2,(26,[yi f,yi g,.sn 3 tI h none])),(4,(26,[yi i,yi j,.nil])),(5,(26,[yi l,yi m,.own 20000322]))] [(20000322,(⟨3,.int .i64,a,true,false⟩:ac))]
def Cf:aa:=⟨[1,2,4,5,6,7],[2,4,5],[],[],[(⟨true,5,2⟩,20000322)]⟩
def rb(a b:LI)(d e f g h:Int)(i:LI)(j l m o:Int):St:=ah [(1,.c (.sn 3 tI b none)),(2,xb 2),(4,xb 4),(5,xb 5),(6,xi d),(7,xi e),(8,xi f)] [(2,(26,[yi g,yi h,.sn 3 tI i none])),(4,(26,[yi j,yi l,.nil])),(5,(26,[yi m,yi o,.own 20000322]))] [(20000322,(⟨3,.int .i64,a,true,false⟩:ac))]
def Cg:aa:=⟨[1,2,4,5,6,7,8],[2,4,5],[],[],[(⟨true,5,2⟩,20000322)]⟩
def l8(a:LI)(b c d e:Int):St:=ah [(4,xb 4),(5,xb 5)] [(4,(26,[yi b,yi c,.nil])),(5,(26,[yi d,yi e,.own 20000322]))] [(20000322,(⟨3,.int .i64,a,true,false⟩:ac))]
def wj:aa:=⟨[4,5],[4,5],[],[],[(⟨true,5,2⟩,20000322)]⟩
def Rw(a:LI)(b c:Int):St:=ah [(4,xb 4)] [(4,(26,[yi b,yi c,.own 20000258]))] [(20000258,(⟨3,.int .i64,a,true,false⟩:ac))]
def Rx:aa:=⟨[4],[4],[],[],[(⟨true,4,2⟩,20000258)]⟩
def Ry:Nat->Option aa:=ay [(2,jz),(1,jz),(0,wj),(1000000,Rx)]
abbrev hJ{J:Type}(N n:Nat)(V:St)(l:aa)(K:KT J):Option J:=ak Cc be Ry N (a6 99 (bf Try.f81) n) .n V (av (some l) K)
def Rz N b a (K:KT J):hJ N 2 (Rt b a) Ru K =
 bP.Z1 N b a (λa c d e f g=>K .nrm (Cd a c d e f g)):=by kernel_rfl
def RA N a b c d e f (K:KT J):hJ N 5 (Cd a b c d e f) Rv K =
 bP.Z3 N a b c d e f (λg a b c d e f h i=>K .nrm (Ce g a b c d e f h i)):=by kernel_rfl
def RB N a b c d e f g h i (K:KT J):hJ N 19 (Ce a b c d e f g h i) jz K =
 bP.Z6 N a b c d e f g h i (λa b j c d e f g h i=>K .nrm (gf a b j c d e f g h i)):=by kernel_rfl
def RC N a f g h i j b c d e (K:KT J):hJ N 139 (gf a f g h i j b c d e) jz K =
 bP.Z10 N a f g h i j b c d e (λa f g h i j b c d e=>K .nrm (gf a f g h i j b c d e)) (λa b c d e=>K (.exit 0) (l8 a b c d e)):=by kernel_rfl
def RD N a b c d e f g h i j (K:KT J):hJ N 1099 (gf a b c d e f g h i j) Cf K =
 bP.Z14 N a b c d e f g h i j (λa b c l d e f g h i j=>K .nrm (ra a b c l d e f g h i j)):=by kernel_rfl
def RE N a b c d e f g h i j l (K:KT J):hJ N 2635 (ra a b c d e f g h i j l) Cf K =
 bP.Z16 N a b c d e f g h i j l (λa b c d e f g h i j l=>K .nrm (ra a b c d e f g h i j l)):=by kernel_rfl
def RF N a b c d e f g h i j l (K:KT J):hJ N 5707 (ra a b c d e f g h i j l) Cg K =
 bP.Z18 N a b c d e f g h i j l (λa b c d m e f g h i j l=>K .nrm (rb a b c d m e f g h i j l)):=by kernel_rfl
def RG N a b c l m d e f g h i j (K:KT J):hJ N 20043 (rb a b c l m d e f g h i j) Cg K =
 bP.Z21 N a b c l m d e f g h i j (λa b c l m d e f g h i j=>K .nrm (rb a b c l m d e f g h i j)) (λa b c d e f g h i j=>K (.exit 2) (gf a b c d e f g h i j)):=by kernel_rfl
def RH N (K:KT J):=p7 K (bP.Z20L N (λa b c d e f g h i j=>K (.exit 2) (gf a b c d e f g h i j))) (λa b c l m d e f g h i j k=>bP.Z21 N a b c l m d e f g h i j k (λa b c d e f g h i j=>K (.exit 2) (gf a b c d e f g h i j))) (λF a b c l m d e f g h i j=>RG N a b c l m d e f g h i j _) (by kernel_rfl)
def RI N a b c d e f g h i j l m (K:KT J):=vL (rb a b c d e f g h i j l m) (RH N (jK jz K) N a b c d e f g h i j l m) (by kernel_rfl)
def RJ N a b c l m d e f g h i j (K:KT J):=vB 2 jz K (bP.Z19 N a b c l m d e f g h i j (λa b c d e f g h i j=>K .nrm (gf a b c d e f g h i j))) (RI N a b c l m d e f g h i j _) (by kernel_rfl)
def RK N a b c d e f g h i j l (K:KT J):=vQ (λk=>bP.Z18 N a b c d e f g h i j l k) (RF N a b c d e f g h i j l _) (nz λa b c d m e f g h i j l=>RJ N a b c d m e f g h i j l K)
def RL N a b c d e f g h i j l (K:KT J):=vQ (λk=>bP.Z16 N a b c d e f g h i j l k) (RE N a b c d e f g h i j l _) (gB λa b c d e f g h i j l=>RK N a b c d e f g h i j l K)
def RM N a b c d e f g h i j (K:KT J):=vQ (λk=>bP.Z14 N a b c d e f g h i j k) (RD N a b c d e f g h i j _) (gB λa b c l d e f g h i j=>RL N a b c l d e f g h i j K)
def RN N a b c d e f g h i j (K:KT J):=vB 1 jz K (bP.Z12 N a b c d e f g h i j (λa b c d e f g h i j=>K .nrm (gf a b c d e f g h i j))) (RM N a b c d e f g h i j _) (by kernel_rfl)
def RO N a b c d e f g h i j (K:KT J):hJ N 459 (gf a b c d e f g h i j) jz K =
 bP.Z22 N a b c d e f g h i j (λa b c d e f g h i j=>K .nrm (gf a b c d e f g h i j)):=by kernel_rfl
def RP N a b c d e f g h i j (K:KT J):=vQ (λk=>bP.Z12 N a b c d e f g h i j k) (RN N a b c d e f g h i j _) (dC λa b c d e f g h i j=>RO N a b c d e f g h i j K)
def RQ N a f g h i j b c d e (K:KT J):=vQ (λk=>bP.Z10 N a f g h i j b c d e k (λa b c d e=>K (.exit 0) (l8 a b c d e))) (RC N a f g h i j b c d e _) (dC λa f g h i j b c d e=>RP N a f g h i j b c d e K)
def RR N (K:KT J):=iq K (bP.Z8L N (λa b c d e=>K (.exit 0) (l8 a b c d e))) (λa f g h i j b c d e k=>bP.Z9 N a f g h i j b c d e k (λa b c d e=>K (.exit 0) (l8 a b c d e))) (λF a f g h i j b c d e=>RQ N a f g h i j b c d e _) (by kernel_rfl)
def RS N a b c d e f g h i j (K:KT J):=vL (gf a b c d e f g h i j) (RR N (jK wj K) N a b c d e f g h i j) (by kernel_rfl)
def RT N a f g h i j b c d e (K:KT J):=vB 0 wj K (bP.Z7 N a f g h i j b c d e (λa b c d e=>K .nrm (l8 a b c d e))) (RS N a f g h i j b c d e _) (by kernel_rfl)
def RU N a b c d e f g h i (K:KT J):=vQ (λk=>bP.Z6 N a b c d e f g h i k) (RB N a b c d e f g h i _) (dC λa b j c d e f g h i=>RT N a b j c d e f g h i K)
def RV N c a b d e (K:KT J):hJ N 15 (l8 c a b d e) Rs K =
 bP.Z23 N c a b d e (λf a b=>K .ret (Rw f a b)):=by kernel_rfl
def RW N a f g h i b c d e (K:KT J):=vQ (λk=>bP.Z5 N a f g h i b c d e k) (RU N a f g h i b c d e _) (bZ λa b c d e=>RV N a b c d e K)
def RX N a b c d e f (K:KT J):=vQ (λk=>bP.Z3 N a b c d e f k) (RA N a b c d e f _) (dB λg a b c d e f h i=>RW N g a b c d e f h i K)
def RY N b a (K:KT J):=vQ (λk=>bP.Z1 N b a k) (Rz N b a _) (dz λa c d e f g=>RX N a c d e f g K)
def RZ(h:bP.Spec):aB Try.prog 81 wi :=
 bI Try.func81 bg Rr (λN X K=>RY N X.1 X.2.1 K) (by kernel_rfl) λX hb hp=>by obtain⟨a,b,_⟩:=X;obtain⟨N,h⟩:=h a b hb.1 hb.2.1 hp;exact⟨N,Eq.trans (by kernel_rfl) (h N (Nat.le_refl N))⟩
def R0:aB Try.prog 81 wi:=RZ bP.ok
def Ch:cO:=⟨94,[(5,.int .u8)],.pair (.int .i64) (.int .i64)⟩
def Ci:List PT:=[⟨.pair (.int .i64) (.pair (.int .i64) (.sl 3 (.int .i64))),true,false⟩]
def R2:List PT:=[⟨.pair (.int .i64) (.pair (.int .i64) (.sl 3 (.int .i64))),true,false⟩]
def wk:dM:=⟨Ch,Ci,true,R2,(some λX=>bG.P X.1.1.1 X.1.2 X.2.1),λX=>((bG.g X.1.1.1 X.1.2 X.2.1).1,((),((bG.g X.1.1.1 X.1.2 X.2.1).2,())))⟩
def Cj:Gm:=addV (addV (aR (aR ba 39 we) 81 wi) 94 kM) 111 wg
def R3:aq Try.prog Cj:=((((aq.nil).add Q1 (by kernel_rfl)).add R0 (by kernel_rfl)).addV nT (by kernel_rfl)).addV Rq (by kernel_rfl)
def R4:aa:=⟨[],[],[],[],[]⟩
def R5(u0:Value)(b0:List Int)(r0:Int×Int)(a:MT):St:=dr Ch Ci [u0] (((b0,()),r0),(a,()))
def kR(u0:Value)(a:List Int)(b c d e:Int)(f:LI)(g h:Int):St:=ah [(0,xb 100000),(3,xb 3),(4,xb 4),(100000,xb 100000)] [(100000,(94,[.bor u0 5 (.int .u8) a,yi b,yi c])),(3,(26,[yi d,yi e,.sn 3 tI f none])),(4,(26,[yi g,yi h,.nil]))] []
def rc:aa:=⟨[0,3,4,100000],[100000,3,4],[],[],[]⟩
def Ck(u0:Value)(a:Int)(b:List Int)(c d e f:Int)(g:LI)(h i:Int):St:=ah [(0,xb 100000),(3,xb 3),(4,xb 4),(5,xi a),(100000,xb 100000)] [(100000,(94,[.bor u0 5 (.int .u8) b,yi c,yi d])),(3,(26,[yi e,yi f,.sn 3 tI g none])),(4,(26,[yi h,yi i,.nil]))] []
def R6:aa:=⟨[0,3,4,5,100000],[100000,3,4],[],[],[]⟩
def Cl(u0:Value)(a b:Int)(c:List Int)(d e f g:Int)(h:LI)(i j:Int):St:=ah [(0,xb 100000),(3,xb 3),(4,xb 4),(5,xi a),(6,xi b),(100000,xb 100000)] [(100000,(94,[.bor u0 5 (.int .u8) c,yi d,yi e])),(3,(26,[yi f,yi g,.sn 3 tI h none])),(4,(26,[yi i,yi j,.nil]))] []
def R7:aa:=⟨[0,3,4,5,6,100000],[100000,3,4],[],[],[]⟩
def Cm(u0:Value)(a b:Int)(c:List Int)(d e f g:Int)(h:LI)(i j:Int):St:=ah [(0,xb 100000),(3,xb 3),(4,xb 4),(5,xi a),(6,xi b),(100000,xb 100000)] [(100000,(94,[.bor u0 5 (.int .u8) c,yi d,yi e])),(3,(26,[yi f,yi g,.sn 3 tI h none])),(4,(26,[yi i,yi j,.nil]))] []
def R8:aa:=⟨[0,3,4,5,6,100000],[100000,3,4],[],[(⟨true,3,2⟩,3,.int .i64)],[]⟩
def R9(u0:Value)(a:LI)(b c:Int)(d:List Int)(e f:Int):St:=ah [(4,xb 4),(100000,xb 100000)] [(4,(26,[yi b,yi c,.own 20000258])),(100000,(94,[.bor u0 5 (.int .u8) d,yi e,yi f]))] [(20000258,(⟨3,.int .i64,a,true,false⟩:ac))]
def Sa:aa:=⟨[4,100000],[4,100000],[],[],[(⟨true,4,2⟩,20000258)]⟩
def Sb:Nat->Option aa:=ay [(0,rc),(1000000,Sa)]
abbrev oh{J:Type}(N n:Nat)(V:St)(l:aa)(K:KT J):Option J:=ak Cj be Sb N (a6 99 (bf Try.f93) n) .n V (av (some l) K)
def Sc N u0 b0 r0 a (K:KT J):oh N 2 (R5 u0 b0 r0 a) rc K =
 bG.Z1 N b0 r0 a (λb c d e f g h i=>K .nrm (kR u0 b c d e f g h i)):=by kernel_rfl
def Sd N u0 a b c d e f g h (K:KT J):oh N 5 (kR u0 a b c d e f g h) R6 K =
 bG.Z3 N a b c d e f g h (λi a b c d e f g h=>K .nrm (Ck u0 i a b c d e f g h)):=by kernel_rfl
def Se N u0 a b c d e f g h i (K:KT J):oh N 19 (Ck u0 a b c d e f g h i) R7 K =
 bG.Z6 N a b c d e f g h i (λa j b c d e f g h i=>K .nrm (Cl u0 a j b c d e f g h i)):=by kernel_rfl
def Sf N u0 i j a b c d e f g h (K:KT J):oh N 75 (Cm u0 i j a b c d e f g h) R8 K =
 bG.Z9 N i j a b c d e f g h (λi j a b c d e f g h=>K .nrm (Cm u0 i j a b c d e f g h)) (λa b c d e f g h=>K (.exit 0) (kR u0 a b c d e f g h)):=by kernel_rfl
def Sg N u0 (K:KT J):=iq K (bG.Z8L N (λa b c d e f g h=>K (.exit 0) (kR u0 a b c d e f g h))) (λi j a b c d e f g h k=>bG.Z9 N i j a b c d e f g h k (λa b c d e f g h=>K (.exit 0) (kR u0 a b c d e f g h))) (λF i j a b c d e f g h=>Sf N u0 i j a b c d e f g h _) (by kernel_rfl)
def Sh N u0 a b c d e f g h i j (K:KT J):=vL (Cl u0 a b c d e f g h i j) (Sg N u0 (jK rc K) N a b c d e f g h i j) (by kernel_rfl)
def Si N u0 i j a b c d e f g h (K:KT J):=vB 0 rc K (bG.Z7 N i j a b c d e f g h (λa b c d e f g h=>K .nrm (kR u0 a b c d e f g h))) (Sh N u0 i j a b c d e f g h _) (by kernel_rfl)
def Sj N u0 a b c d e f g h i (K:KT J):=vQ (λk=>bG.Z6 N a b c d e f g h i k) (Se N u0 a b c d e f g h i _) (dC λa j b c d e f g h i=>Si N u0 a j b c d e f g h i K)
def Sk N u0 a b c f g h d e (K:KT J):oh N 15 (kR u0 a b c f g h d e) R4 K =
 bG.Z10 N a b c f g h d e (λi d e a b c=>K .ret (R9 u0 i d e a b c)):=by kernel_rfl
def Sl N u0 i a b c d e f g h (K:KT J):=vQ (λk=>bG.Z5 N i a b c d e f g h k) (Sj N u0 i a b c d e f g h _) (dA λa b c d e f g h=>Sk N u0 a b c d e f g h K)
def Sm N u0 a b c d e f g h (K:KT J):=vQ (λk=>bG.Z3 N a b c d e f g h k) (Sd N u0 a b c d e f g h _) (dB λi a b c d e f g h=>Sl N u0 i a b c d e f g h K)
def Sn N u0 b0 r0 a (K:KT J):=vQ (λk=>bG.Z1 N b0 r0 a k) (Sc N u0 b0 r0 a _) (dA λb c d e f g h i=>Sm N u0 b c d e f g h i K)
def So(h:bG.Spec):db Try.prog 93 wk :=
 ir Try.func93 bg R3 (λN u X K=>Sn N u X.1.1.1 X.1.2 X.2.1 K) (by kernel_rfl) λu0 X hb1 hb2 hp=>by obtain⟨⟨⟨b0,_⟩,r0⟩,a,_⟩:=X;obtain⟨N,h⟩:=h [u0] b0 r0 a hb1.1 hb2.1 hp;exact⟨N,Eq.trans (by kernel_rfl) (h N (Nat.le_refl N))⟩
def Sp:db Try.prog 93 wk:=So bG.ok
def Cn:cO:=⟨94,[(5,.int .u8)],.pair (.int .i64) (.int .i64)⟩
def Co:List PT:=[⟨.int .i64,false,false⟩]
def Sq:List PT:=[⟨.pair (.int .i64) (.pair (.int .i64) (.sl 3 (.int .i64))),true,false⟩,⟨.str,false,false⟩]
def wl:dM:=⟨Cn,Co,true,Sq,(some λX=>cF.P X.1.1.1 X.1.2 X.2.1),λX=>((cF.g X.1.1.1 X.1.2 X.2.1).1,((),((cF.g X.1.1.1 X.1.2 X.2.1).2.1,((cF.g X.1.1.1 X.1.2 X.2.1).2.2,()))))⟩
def Cp:Gm:=addV (addV ba 92 vC) 93 wk
def Sr:aq Try.prog Cp:=((aq.nil).addV Me (by kernel_rfl)).addV Sp (by kernel_rfl)
def Ss:aa:=⟨[],[],[],[],[]⟩
def Su(u0:Value)(b0:List Int)(r0:Int×Int)(a:Int):St:=dr Cn Co [u0] (((b0,()),r0),(a,()))
def Sv(u0:Value)(a:LI)(b:ByteArray)(d e:Int)(f:List Int)(g h:Int):St:=ah [(4,xb 4),(5,.c (.str b)),(100000,xb 100000)] [(4,(26,[yi d,yi e,.own 20000258])),(100000,(94,[.bor u0 5 (.int .u8) f,yi g,yi h]))] [(20000258,(⟨3,.int .i64,a,true,false⟩:ac))]
def Sw:aa:=⟨[4,5,100000],[4,100000],[],[],[(⟨true,4,2⟩,20000258)]⟩
def Sx:Nat->Option aa:=ay [(1000000,Sw)]
abbrev Sy{J:Type}(N n:Nat)(V:St)(l:aa)(K:KT J):Option J:=ak Cp be Sx N (a6 99 (bf Try.f55) n) .n V (av (some l) K)
def Sz N u0 b0 r0 a (K:KT J):Sy N 1 (Su u0 b0 r0 a) Ss K =
 cF.Z0 N b0 r0 a (λb c d e f g h=>K .ret (Sv u0 b c d e f g h)):=by kernel_rfl
def SA(h:cF.Spec):db Try.prog 55 wl :=
 ir Try.func55 bg Sr (λN u X K=>Sz N u X.1.1.1 X.1.2 X.2.1 K) (by kernel_rfl) λu0 X hb1 hb2 hp=>by obtain⟨⟨⟨b0,_⟩,r0⟩,a,_⟩:=X;obtain⟨N,h⟩:=h [u0] b0 r0 a hb1.1 hp;exact⟨N,Eq.trans (by kernel_rfl) (h N (Nat.le_refl N))⟩
def SB:db Try.prog 55 wl:=SA cF.ok
def Cq:cO:=⟨94,[(5,.int .u8)],.pair (.int .i64) (.int .i64)⟩
def Cr:List PT:=[⟨.int .i64,false,false⟩,⟨.int .i64,false,false⟩]
def SC:List PT:=[⟨.sl 3 (.int .i64),false,false⟩]
def wm:dM:=⟨Cq,Cr,true,SC,(some λX=>cL.P X.1.1.1 X.1.2 X.2.1 X.2.2.1),λX=>((cL.g X.1.1.1 X.1.2 X.2.1 X.2.2.1).1,((),((cL.g X.1.1.1 X.1.2 X.2.1 X.2.2.1).2,())))⟩
def Cs:Gm:=addV ba 94 kM
def SD:aq Try.prog Cs:=(aq.nil).addV nT (by kernel_rfl)
def SE:aa:=⟨[],[],[],[],[]⟩
def SF(u0:Value)(b0:List Int)(r0:Int×Int)(a b:Int):St:=dr Cq Cr [u0] (((b0,()),r0),(a,(b,())))
def Ct(u0:Value)(a b:Int)(c:List Int)(d e:Int):St:=ah [(0,xb 100000),(1,xi a),(2,xi b),(100000,xb 100000)] [(100000,(94,[.bor u0 5 (.int .u8) c,yi d,yi e]))] []
def SG:aa:=⟨[0,1,2,100000],[100000],[],[],[]⟩
def Cu(u0:Value)(a:LI)(b c:Int)(d:List Int)(e f:Int):St:=ah [(0,xb 100000),(1,xi b),(2,xi c),(7,xo 1000448),(100000,xb 100000)] [(100000,(94,[.bor u0 5 (.int .u8) d,yi e,yi f]))] [(1000448,(⟨3,.int .i64,a,true,false⟩:ac))]
def SH:aa:=⟨[0,1,2,7,100000],[100000],[],[],[(⟨false,7,0⟩,1000448)]⟩
def Cv(u0:Value)(a:LI)(b c:Int)(d:List Int)(e f:Int):St:=ah [(0,xb 100000),(1,xi b),(7,xo 1000448),(8,xi c),(100000,xb 100000)] [(100000,(94,[.bor u0 5 (.int .u8) d,yi e,yi f]))] [(1000448,(⟨3,.int .i64,a,true,false⟩:ac))]
def SI:aa:=⟨[0,1,7,8,100000],[100000],[],[],[(⟨false,7,0⟩,1000448)]⟩
def rg(u0:Value)(a:LI)(b c d:Int)(e:List Int)(f g:Int):St:=ah [(0,xb 100000),(1,xi b),(7,xo 1000448),(8,xi c),(9,xi d),(100000,xb 100000)] [(100000,(94,[.bor u0 5 (.int .u8) e,yi f,yi g]))] [(1000448,(⟨3,.int .i64,a,true,false⟩:ac))]
def Cw:aa:=⟨[0,1,7,8,9,100000],[100000],[],[],[(⟨false,7,0⟩,1000448)]⟩
def om(u0:Value)(a:LI)(b:List Int)(c d:Int):St:=ah [(7,xo 1000448),(100000,xb 100000)] [(100000,(94,[.bor u0 5 (.int .u8) b,yi c,yi d]))] [(1000448,(⟨3,.int .i64,a,true,false⟩:ac))]
def wn:aa:=⟨[7,100000],[100000],[],[],[(⟨false,7,0⟩,1000448)]⟩
def SJ(u0:Value)(a:LI)(b:List Int)(c d:Int):St:=ah [(6,xo 1000384),(100000,xb 100000)] [(100000,(94,[.bor u0 5 (.int .u8) b,yi c,yi d]))] [(1000384,(⟨3,.int .i64,a,true,false⟩:ac))]
def SK:aa:=⟨[6,100000],[100000],[],[],[(⟨false,6,0⟩,1000384)]⟩
def SL:Nat->Option aa:=ay [(0,wn),(1000000,SK)]
abbrev l9{J:Type}(N n:Nat)(V:St)(l:aa)(K:KT J):Option J:=ak Cs be SL N (a6 99 (bf Try.f56) n) .n V (av (some l) K)
def SM N u0 b0 r0 a b (K:KT J):l9 N 2 (SF u0 b0 r0 a b) SG K =
 cL.Z1 N b0 r0 a b (λa b c d e=>K .nrm (Ct u0 a b c d e)):=by kernel_rfl
def SN N u0 a b c d e (K:KT J):l9 N 5 (Ct u0 a b c d e) SH K =
 cL.Z3 N a b c d e (λf a b c d e=>K .nrm (Cu u0 f a b c d e)):=by kernel_rfl
def SO N u0 a b f c d e (K:KT J):l9 N 11 (Cu u0 a b f c d e) SI K =
 cL.Z5 N a b f c d e (λa b g c d e=>K .nrm (Cv u0 a b g c d e)):=by kernel_rfl
def SP N u0 a b c d e f (K:KT J):l9 N 39 (Cv u0 a b c d e f) Cw K =
 cL.Z8 N a b c d e f (λa b c g d e f=>K .nrm (rg u0 a b c g d e f)):=by kernel_rfl
def SQ N u0 a e f g b c d (K:KT J):l9 N 151 (rg u0 a e f g b c d) Cw K =
 cL.Z11 N a e f g b c d (λa e f g b c d=>K .nrm (rg u0 a e f g b c d)) (λa b c d=>K (.exit 0) (om u0 a b c d)):=by kernel_rfl
def SR N u0 (K:KT J):=kC K (cL.Z10L N (λa b c d=>K (.exit 0) (om u0 a b c d))) (λa e f g b c d k=>cL.Z11 N a e f g b c d k (λa b c d=>K (.exit 0) (om u0 a b c d))) (λF a e f g b c d=>SQ N u0 a e f g b c d _) (by kernel_rfl)
def SS N u0 a b c d e f g (K:KT J):=vL (rg u0 a b c d e f g) (SR N u0 (jK wn K) N a b c d e f g) (by kernel_rfl)
def ST N u0 a e f g b c d (K:KT J):=vB 0 wn K (cL.Z9 N a e f g b c d (λa b c d=>K .nrm (om u0 a b c d))) (SS N u0 a e f g b c d _) (by kernel_rfl)
def SU N u0 a b c d e f (K:KT J):=vQ (λk=>cL.Z8 N a b c d e f k) (SP N u0 a b c d e f _) (eI λa b c g d e f=>ST N u0 a b c g d e f K)
def SW N u0 d a b c (K:KT J):l9 N 31 (om u0 d a b c) SE K =
 cL.Z12 N d a b c (λe a b c=>K .ret (SJ u0 e a b c)):=by kernel_rfl
def SX N u0 a e f b c d (K:KT J):=vQ (λk=>cL.Z7 N a e f b c d k) (SU N u0 a e f b c d _) (dQ λa b c d=>SW N u0 a b c d K)
def SY N u0 a b f c d e (K:KT J):=vQ (λk=>cL.Z5 N a b f c d e k) (SO N u0 a b f c d e _) (dz λa b g c d e=>SX N u0 a b g c d e K)
def SZ N u0 a b c d e (K:KT J):=vQ (λk=>cL.Z3 N a b c d e k) (SN N u0 a b c d e _) (dz λf a b c d e=>SY N u0 f a b c d e K)
def S0 N u0 b0 r0 a b (K:KT J):=vQ (λk=>cL.Z1 N b0 r0 a b k) (SM N u0 b0 r0 a b _) (bZ λa b c d e=>SZ N u0 a b c d e K)
def S1(h:cL.Spec):db Try.prog 56 wm :=
 ir Try.func56 bg SD (λN u X K=>S0 N u X.1.1.1 X.1.2 X.2.1 X.2.2.1 K) (by kernel_rfl) λu0 X hb1 hb2 hp=>by obtain⟨⟨⟨b0,_⟩,r0⟩,a,b,_⟩:=X;obtain⟨N,h⟩:=h [u0] b0 r0 a b hb1.1 hp;exact⟨N,Eq.trans (by kernel_rfl) (h N (Nat.le_refl N))⟩
def S2:db Try.prog 56 wm:=S1 cL.ok
def Cx:bv:=⟨[⟨.sl 5 (.int .u8),false,false⟩],[⟨.pair (.int .i64) (.pair (.int .i64) (.sl 3 (.int .i64))),true,false⟩,⟨.str,false,false⟩,⟨.sl 3 (.int .i64),false,false⟩]⟩
def wo:aW:=⟨Cx,none,λX=>((),((fq.g X.1).1,((fq.g X.1).2.1,((fq.g X.1).2.2,()))))⟩
def Cy:Gm:=addV (addV (addN ba 54 vr) 55 wl) 56 wm
def S3:aq Try.prog Cy:=(((aq.nil).addN Jq).addV SB (by kernel_rfl)).addV S2 (by kernel_rfl)
def S4:aa:=⟨[],[],[],[],[]⟩
def S5(a:List Int):St:=bz Cx.ps (a,())
def S6(a b:LI)(d:ByteArray)(e f:Int):St:=ah [(2,xb 2),(3,.c (.str d)),(4,xo 1000256)] [(2,(26,[yi e,yi f,.own 20000130]))] [(1000256,(⟨3,.int .i64,a,true,false⟩:ac)),(20000130,(⟨3,.int .i64,b,true,false⟩:ac))]
def S7:aa:=⟨[2,3,4],[2],[],[],[(⟨false,4,0⟩,1000256),(⟨true,2,2⟩,20000130)]⟩
def S8:Nat->Option aa:=ay [(1000000,S7)]
abbrev S9{J:Type}(N n:Nat)(V:St)(l:aa)(K:KT J):Option J:=ak Cy be S8 N (a6 99 (bf Try.f23) n) .n V (av (some l) K)
def Ta N a (K:KT J):S9 N 1 (S5 a) S4 K =
 fq.Z0 N a (λb c d e f=>K .ret (S6 b c d e f)):=by kernel_rfl
def Tb(h:fq.Spec):aB Try.prog 23 wo :=
 bI Try.func23 bg S3 (λN X K=>Ta N X.1 K) (by kernel_rfl) λX hb hp=>by obtain⟨a,_⟩:=X;obtain⟨N,h⟩:=h a hb.1;exact⟨N,Eq.trans (by kernel_rfl) (h N (Nat.le_refl N))⟩
def Tc:aB Try.prog 23 wo:=Tb fq.ok
def Cz:bv:=⟨[⟨.int .i64,false,false⟩,⟨.int .i64,false,false⟩,⟨.int .i64,false,false⟩],[⟨.bool,false,false⟩]⟩
def ma:aW:=⟨Cz,none,λX=>((),((eQ.g X.1 X.2.1 X.2.2.1),()))⟩
def CA:Gm:=ba
def Td:aq Try.prog CA:=aq.nil
def Te:aa:=⟨[],[],[],[],[]⟩
def Tf(a b c:Int):St:=bz Cz.ps (a,(b,(c,())))
def Tg(a:Bool):St:=ah [(6,xB a)] [] []
def Th:aa:=⟨[6],[],[],[],[]⟩
def Ti:Nat->Option aa:=ay [(1000000,Th)]
abbrev Tj{J:Type}(N n:Nat)(V:St)(l:aa)(K:KT J):Option J:=ak CA be Ti N (a6 99 (bf Try.f65) n) .n V (av (some l) K)
def Tk N a b c (K:KT J):Tj N 1 (Tf a b c) Te K =
 eQ.Z0 N a b c (λd=>K .ret (Tg d)):=by kernel_rfl
def Tl(h:eQ.Spec):aB Try.prog 65 ma :=
 bI Try.func65 bg Td (λN X K=>Tk N X.1 X.2.1 X.2.2.1 K) (by kernel_rfl) λX hb hp=>by obtain⟨a,b,c,_⟩:=X;obtain⟨N,h⟩:=h a b c;exact⟨N,Eq.trans (by kernel_rfl) (h N (Nat.le_refl N))⟩
def rj:aB Try.prog 65 ma:=Tl eQ.ok
def CB:bv:=⟨[⟨.int .i64,false,false⟩],[⟨.bool,false,false⟩]⟩
def wq:aW:=⟨CB,none,λX=>((),((eR.g X.1),()))⟩
def CC:Gm:=aR ba 65 ma
def Tm:aq Try.prog CC:=(aq.nil).add rj (by kernel_rfl)
def Tn:aa:=⟨[],[],[],[],[]⟩
def To(a:Int):St:=bz CB.ps (a,())
def Tq(a:Bool):St:=ah [(2,xB a)] [] []
def Tr:aa:=⟨[2],[],[],[],[]⟩
def Ts:Nat->Option aa:=ay [(1000000,Tr)]
abbrev Tt{J:Type}(N n:Nat)(V:St)(l:aa)(K:KT J):Option J:=ak CC be Ts N (a6 99 (bf Try.f96) n) .n V (av (some l) K)
def Tu N a (K:KT J):Tt N 1 (To a) Tn K =
 eR.Z0 N a (λb=>K .ret (Tq b)):=by kernel_rfl
def Tv(h:eR.Spec):aB Try.prog 96 wq :=
 bI Try.func96 bg Tm (λN X K=>Tu N X.1 K) (by kernel_rfl) λX hb hp=>by obtain⟨a,_⟩:=X;obtain⟨N,h⟩:=h a;exact⟨N,Eq.trans (by kernel_rfl) (h N (Nat.le_refl N))⟩
def Tw:aB Try.prog 96 wq:=Tv eR.ok
def CD:bv:=⟨[⟨.sl 3 (.int .i64),false,false⟩,⟨.fnc 96,false,false⟩],[⟨.int .i64,false,false⟩]⟩
def wr:aW:=⟨CD,none,λX=>((),((dW.g X.1 X.2.1),()))⟩
def CE:Gm:=aR ba 96 wq
def Tx:aq Try.prog CE:=(aq.nil).add Tw (by kernel_rfl)
def Tz:aa:=⟨[],[],[],[],[]⟩
def TA(a:LI)(b:Unit):St:=bz CD.ps (a,(b,()))
def CF(a:LI):St:=ah [(0,.c (.sn 3 tI a none)),(1,.c (.fn 96 []))] [] []
def TB:aa:=⟨[0,1],[],[],[],[]⟩
def rp(a:LI)(b d:Int):St:=ah [(0,.c (.sn 3 tI a none)),(1,.c (.fn 96 [])),(7,xi b),(8,xi d)] [] []
def CG:aa:=⟨[0,1,7,8],[],[],[],[]⟩
def oq :St:=ah [] [] []
def ws:aa:=⟨[],[],[],[],[]⟩
def mb(a:Int):St:=ah [(4,xi a)] [] []
def TC:aa:=⟨[4],[],[],[],[]⟩
def TD:Nat->Option aa:=ay [(0,ws),(1000000,TC)]
abbrev rq{J:Type}(N n:Nat)(V:St)(l:aa)(K:KT J):Option J:=ak CE be TD N (a6 99 (bf Try.f113) n) .n V (av (some l) K)
def TE N a b (K:KT J):rq N 2 (TA a b) TB K =
 dW.Z1 N a b (λa=>K .nrm (CF a)):=by kernel_rfl
def TF N a (K:KT J):rq N 9 (CF a) CG K =
 dW.Z4 N a (λa b c=>K .nrm (rp a b c)):=by kernel_rfl
def TG N a b c (K:KT J):rq N 37 (rp a b c) CG K =
 dW.Z7 N a b c (λa b c=>K .nrm (rp a b c)) (K (.exit 0) oq) (λd=>K .ret (mb d)):=by kernel_rfl
def TH N (K:KT J):=jh K (dW.Z6L N (K (.exit 0) oq) (λa=>K .ret (mb a))) (λb c d k=>dW.Z7 N b c d k (K (.exit 0) oq) (λa=>K .ret (mb a))) (λF b c d=>TG N b c d _) (by kernel_rfl)
def TJ N a b c (K:KT J):=vL (rp a b c) (TH N (jK ws K) N a b c) (by kernel_rfl)
def TK N a b c (K:KT J):=vB 0 ws K (dW.Z5 N a b c (K .nrm oq) (λd=>K .ret (mb d))) (TJ N a b c _) (by kernel_rfl)
def TL N a (K:KT J):=vQ (λk=>dW.Z4 N a k) (TF N a _) (dP λa b c=>TK N a b c K)
def TM N  (K:KT J):rq N 7 oq Tz K =
 dW.Z8 N (λa=>K .ret (mb a)):=by kernel_rfl
def TN N a (K:KT J):=vQ (λk=>dW.Z3 N a k (λb=>K .ret (mb b))) (TL N a _) (TM N K)
def TO N a b (K:KT J):=vQ (λk=>dW.Z1 N a b k) (TE N a b _) (funext λa=>TN N a K)
def TP(h:dW.Spec):aB Try.prog 113 wr :=
 bI Try.func113 bg Tx (λN X K=>TO N X.1 X.2.1 K) (by kernel_rfl) λX hb hp=>by obtain⟨a,b,_⟩:=X;obtain⟨N,h⟩:=h a b hb.1;exact⟨N,Eq.trans (by kernel_rfl) (h N (Nat.le_refl N))⟩
def TQ:aB Try.prog 113 wr:=TP dW.ok
def CH:bv:=⟨[⟨.sl 3 (.int .i64),false,false⟩,⟨.fnc 96,false,false⟩],[⟨.bool,false,false⟩]⟩
def wt:aW:=⟨CH,none,λX=>((),((iI.g X.1 X.2.1),()))⟩
def CI:Gm:=aR ba 113 wr
def TR:aq Try.prog CI:=(aq.nil).add TQ (by kernel_rfl)
def TS:aa:=⟨[],[],[],[],[]⟩
def TT(a:LI)(b:Unit):St:=bz CH.ps (a,(b,()))
def TU(a:Bool):St:=ah [(4,xB a)] [] []
def TV:aa:=⟨[4],[],[],[],[]⟩
def TW:Nat->Option aa:=ay [(1000000,TV)]
abbrev TX{J:Type}(N n:Nat)(V:St)(l:aa)(K:KT J):Option J:=ak CI be TW N (a6 99 (bf Try.f95) n) .n V (av (some l) K)
def TY N a b (K:KT J):TX N 1 (TT a b) TS K =
 iI.Z0 N a b (λc=>K .ret (TU c)):=by kernel_rfl
def TZ(h:iI.Spec):aB Try.prog 95 wt :=
 bI Try.func95 bg TR (λN X K=>TY N X.1 X.2.1 K) (by kernel_rfl) λX hb hp=>by obtain⟨a,b,_⟩:=X;obtain⟨N,h⟩:=h a b hb.1;exact⟨N,Eq.trans (by kernel_rfl) (h N (Nat.le_refl N))⟩
def T0:aB Try.prog 95 wt:=TZ iI.ok
def CJ:bv:=⟨[⟨.pair (.int .i64) (.pair (.int .i64) (.sl 3 (.int .i64))),true,false⟩],[⟨.bool,false,false⟩]⟩
def wu:aW:=⟨CJ,none,λX=>((),((iJ.g X.1),()))⟩
def CK:Gm:=aR (aR ba 65 ma) 95 wt
def T1:aq Try.prog CK:=((aq.nil).add rj (by kernel_rfl)).add T0 (by kernel_rfl)
def T4:aa:=⟨[],[],[],[],[]⟩
def T5(a:MT):St:=bz CJ.ps (a,())
def T6(a:Bool):St:=ah [(2,xB a)] [] []
def T7:aa:=⟨[2],[],[],[],[]⟩
def T8:Nat->Option aa:=ay [(1000000,T7)]
abbrev T9{J:Type}(N n:Nat)(V:St)(l:aa)(K:KT J):Option J:=ak CK be T8 N (a6 99 (bf Try.f63) n) .n V (av (some l) K)
def Ua N a (K:KT J):T9 N 1 (T5 a) T4 K =
 iJ.Z0 N a (λb=>K .ret (T6 b)):=by kernel_rfl
def Ub(h:iJ.Spec):aB Try.prog 63 wu :=
 bI Try.func63 bg T1 (λN X K=>Ua N X.1 K) (by kernel_rfl) λX hb hp=>by obtain⟨a,_⟩:=X;obtain⟨N,h⟩:=h a hb.1;exact⟨N,Eq.trans (by kernel_rfl) (h N (Nat.le_refl N))⟩
def Uc:aB Try.prog 63 wu:=Ub iJ.ok
def CL:bv:=⟨[⟨.pair (.int .i64) (.pair (.int .i64) (.sl 3 (.int .i64))),true,false⟩,⟨.int .i64,false,false⟩,⟨.int .i64,false,false⟩],[⟨.int .i64,false,false⟩]⟩
def mc:aW:=⟨CL,(some λX=>cn.P X.1 X.2.1 X.2.2.1),λX=>((),((cn.g X.1 X.2.1 X.2.2.1),()))⟩
def CM:Gm:=ba
def Ud:aq Try.prog CM:=aq.nil
def Ue:aa:=⟨[],[],[],[],[]⟩
def Uf(a:MT)(b c:Int):St:=bz CL.ps (a,(b,(c,())))
def Ug(a:Int):St:=ah [(6,xi a)] [] []
def Uh:aa:=⟨[6],[],[],[],[]⟩
def Ui:Nat->Option aa:=ay [(1000000,Uh)]
abbrev Uj{J:Type}(N n:Nat)(V:St)(l:aa)(K:KT J):Option J:=ak CM be Ui N (a6 99 (bf Try.f60) n) .n V (av (some l) K)
def Uk N a b c (K:KT J):Uj N 1 (Uf a b c) Ue K =
 cn.Z0 N a b c (λd=>K .ret (Ug d)):=by kernel_rfl
def Ul(h:cn.Spec):aB Try.prog 60 mc :=
 bI Try.func60 bg Ud (λN X K=>Uk N X.1 X.2.1 X.2.2.1 K) (by kernel_rfl) λX hb hp=>by obtain⟨a,b,c,_⟩:=X;obtain⟨N,h⟩:=h a b c hb.1 hp;exact⟨N,Eq.trans (by kernel_rfl) (h N (Nat.le_refl N))⟩
def ru:aB Try.prog 60 mc:=Ul cn.ok
def CN:bv:=⟨[⟨.int .i64,false,false⟩,⟨.int .i64,false,false⟩],[⟨.int .i64,false,false⟩]⟩
def wv:aW:=⟨CN,(some λX=>cx.P X.1 X.2.1),λX=>((),((cx.g X.1 X.2.1),()))⟩
def CO:Gm:=ba
def Um:aq Try.prog CO:=aq.nil
def Un:aa:=⟨[],[],[],[],[]⟩
def Uo(a b:Int):St:=bz CN.ps (a,(b,()))
def rz(a b:Int):St:=ah [(0,xi a),(1,xi b)] [] []
def CP:aa:=⟨[0,1],[],[],[],[]⟩
def ot(a:Int):St:=ah [(0,xi a)] [] []
def ww:aa:=⟨[0],[],[],[],[]⟩
def Up(a:Int):St:=ah [(4,xi a)] [] []
def Uq:aa:=⟨[4],[],[],[],[]⟩
def Ur:Nat->Option aa:=ay [(0,ww),(1000000,Uq)]
abbrev wx{J:Type}(N n:Nat)(V:St)(l:aa)(K:KT J):Option J:=ak CO be Ur N (a6 99 (bf Try.f97) n) .n V (av (some l) K)
def Us N a b (K:KT J):wx N 2 (Uo a b) CP K =
 cx.Z1 N a b (λa b=>K .nrm (rz a b)):=by kernel_rfl
def Ut N a b (K:KT J):wx N 17 (rz a b) CP K =
 cx.Z5 N a b (λa b=>K .nrm (rz a b)) (λa=>K (.exit 0) (ot a)):=by kernel_rfl
def Uu N (K:KT J):=uB K (cx.Z4L N (λa=>K (.exit 0) (ot a))) (λa b k=>cx.Z5 N a b k (λa=>K (.exit 0) (ot a))) (λF a b=>Ut N a b _) (by kernel_rfl)
def Uv N a b (K:KT J):=vL (rz a b) (Uu N (jK ww K) N a b) (by kernel_rfl)
def Uw N a b (K:KT J):=vB 0 ww K (cx.Z3 N a b (λa=>K .nrm (ot a))) (Uv N a b _) (by kernel_rfl)
def Ux N a (K:KT J):wx N 7 (ot a) Un K =
 cx.Z6 N a (λb=>K .ret (Up b)):=by kernel_rfl
def Uy N a b (K:KT J):=vQ (λk=>cx.Z3 N a b k) (Uw N a b _) (funext λa=>Ux N a K)
def Uz N a b (K:KT J):=vQ (λk=>cx.Z1 N a b k) (Us N a b _) (eH λa b=>Uy N a b K)
def UA(h:cx.Spec):aB Try.prog 97 wv :=
 bI Try.func97 bg Um (λN X K=>Uz N X.1 X.2.1 K) (by kernel_rfl) λX hb hp=>by obtain⟨a,b,_⟩:=X;obtain⟨N,h⟩:=h a b hp;exact⟨N,Eq.trans (by kernel_rfl) (h N (Nat.le_refl N))⟩
def UB:aB Try.prog 97 wv:=UA cx.ok
def CQ:bv:=⟨[⟨.pair (.int .i64) (.pair (.int .i64) (.sl 3 (.int .i64))),true,false⟩],[⟨.sl 3 (.int .i64),false,true⟩]⟩
def wy:aW:=⟨CQ,(some λX=>aD.P X.1),λX=>((),((aD.g X.1),()))⟩
def CR:Gm:=aR (aR ba 60 mc) 97 wv
def UC:aq Try.prog CR:=((aq.nil).add ru (by kernel_rfl)).add UB (by kernel_rfl)
def UD:aa:=⟨[],[],[],[],[]⟩
def UE(a:MT):St:=bz CQ.ps (a,())
def CS(a b:Int)(c:LI):St:=ah [(1,xb 1)] [(1,(26,[yi a,yi b,.sn 3 tI c none]))] []
def UF:aa:=⟨[1],[1],[],[],[]⟩
def CT(a b:LI)(c d:Int)(e:LI):St:=ah [(1,xb 1),(3,xo 1000192),(4,xo 1000256)] [(1,(26,[yi c,yi d,.sn 3 tI e none]))] [(1000192,(⟨3,.int .i64,a,true,false⟩:ac)),(1000256,(⟨3,.int .i64,b,true,false⟩:ac))]
def UG:aa:=⟨[1,3,4],[1],[],[],[(⟨false,3,0⟩,1000192),(⟨false,4,0⟩,1000256)]⟩
def CU(a b c:LI)(d e:Int)(f:LI):St:=ah [(1,xb 1),(3,xo 1000192),(4,xo 1000256),(5,xo 1000320)] [(1,(26,[yi d,yi e,.sn 3 tI f none]))] [(1000192,(⟨3,.int .i64,a,true,false⟩:ac)),(1000256,(⟨3,.int .i64,b,true,false⟩:ac)),(1000320,(⟨3,.int .i64,c,true,false⟩:ac))]
def UH:aa:=⟨[1,3,4,5],[1],[],[],[(⟨false,3,0⟩,1000192),(⟨false,4,0⟩,1000256),(⟨false,5,0⟩,1000320)]⟩
def fo(a b c:LI)(d e f g:Int)(h:LI):St:=ah [(1,xb 1),(3,xo 1000192),(4,xo 1000256),(5,xo 1000320),(34,xi d),(35,xi e)] [(1,(26,[yi f,yi g,.sn 3 tI h none]))] [(1000192,(⟨3,.int .i64,a,true,false⟩:ac)),(1000256,(⟨3,.int .i64,b,true,false⟩:ac)),(1000320,(⟨3,.int .i64,c,true,false⟩:ac))]
def jA:aa:=⟨[1,3,4,5,34,35],[1],[],[],[(⟨false,3,0⟩,1000192),(⟨false,4,0⟩,1000256),(⟨false,5,0⟩,1000320)]⟩
def CV(a b c:LI)(d e:Int)(f:Bool)(g h:Int)(i:LI):St:=ah [(1,xb 1),(3,xo 1000192),(4,xo 1000256),(5,xo 1000320),(34,xi d),(35,xi e),(36,xB f)] [(1,(26,[yi g,yi h,.sn 3 tI i none]))] [(1000192,(⟨3,.int .i64,a,true,false⟩:ac)),(1000256,(⟨3,.int .i64,b,true,false⟩:ac)),(1000320,(⟨3,.int .i64,c,true,false⟩:ac))]
def UI:aa:=⟨[1,3,4,5,34,35,36],[1],[],[],[(⟨false,3,0⟩,1000192),(⟨false,4,0⟩,1000256),(⟨false,5,0⟩,1000320)]⟩
def md(a b c:LI)(d e f g h:Int)(i:LI):St:=ah [(1,xb 1),(3,xo 1000192),(4,xo 1000256),(5,xo 1000320),(6,xi d),(34,xi e),(35,xi f)] [(1,(26,[yi g,yi h,.sn 3 tI i none]))] [(1000192,(⟨3,.int .i64,a,true,false⟩:ac)),(1000256,(⟨3,.int .i64,b,true,false⟩:ac)),(1000320,(⟨3,.int .i64,c,true,false⟩:ac))]
def wz:aa:=⟨[1,3,4,5,6,34,35],[1],[],[],[(⟨false,3,0⟩,1000192),(⟨false,4,0⟩,1000256),(⟨false,5,0⟩,1000320)]⟩
def jB(a b c d:LI)(e f g h:Int)(i:LI):St:=ah [(1,xb 1),(3,xo 1000192),(4,xo 1000256),(5,xo 1000320),(7,xo 1000448),(34,xi e),(35,xi f)] [(1,(26,[yi g,yi h,.sn 3 tI i none]))] [(1000192,(⟨3,.int .i64,a,true,false⟩:ac)),(1000256,(⟨3,.int .i64,b,true,false⟩:ac)),(1000320,(⟨3,.int .i64,c,true,false⟩:ac)),(1000448,(⟨3,.int .i64,d,true,false⟩:ac))]
def rA:aa:=⟨[1,3,4,5,7,34,35],[1],[],[],[(⟨false,3,0⟩,1000192),(⟨false,4,0⟩,1000256),(⟨false,5,0⟩,1000320),(⟨false,7,0⟩,1000448)]⟩
def fP(a b c d:LI)(e f g h i:Int)(j:LI):St:=ah [(1,xb 1),(3,xo 1000192),(4,xo 1000256),(5,xo 1000320),(7,xo 1000448),(8,xi e),(34,xi f),(35,xi g)] [(1,(26,[yi h,yi i,.sn 3 tI j none]))] [(1000192,(⟨3,.int .i64,a,true,false⟩:ac)),(1000256,(⟨3,.int .i64,b,true,false⟩:ac)),(1000320,(⟨3,.int .i64,c,true,false⟩:ac)),(1000448,(⟨3,.int .i64,d,true,false⟩:ac))]
def jC:aa:=⟨[1,3,4,5,7,8,34,35],[1],[],[],[(⟨false,3,0⟩,1000192),(⟨false,4,0⟩,1000256),(⟨false,5,0⟩,1000320),(⟨false,7,0⟩,1000448)]⟩
def CW(a b c d:LI)(e f g h i j:Int)(l:LI):St:=ah [(1,xb 1),(3,xo 1000192),(4,xo 1000256),(5,xo 1000320),(7,xo 1000448),(8,xi e),(9,xi f),(34,xi g),(35,xi h)] [(1,(26,[yi i,yi j,.sn 3 tI l none]))] [(1000192,(⟨3,.int .i64,a,true,false⟩:ac)),(1000256,(⟨3,.int .i64,b,true,false⟩:ac)),(1000320,(⟨3,.int .i64,c,true,false⟩:ac)),(1000448,(⟨3,.int .i64,d,true,false⟩:ac))]
def UJ:aa:=⟨[1,3,4,5,7,8,9,34,35],[1],[],[],[(⟨false,3,0⟩,1000192),(⟨false,4,0⟩,1000256),(⟨false,5,0⟩,1000320),(⟨false,7,0⟩,1000448)]⟩
def gL(a b c d:LI)(e f g h i j l m:Int)(o:LI):St:=ah [(1,xb 1),(3,xo 1000192),(4,xo 1000256),(5,xo 1000320),(7,xo 1000448),(8,xi e),(9,xi f),(34,xi g),(35,xi h),(62,xi i),(63,xi j)] [(1,(26,[yi l,yi m,.sn 3 tI o none]))] [(1000192,(⟨3,.int .i64,a,true,false⟩:ac)),(1000256,(⟨3,.int .i64,b,true,false⟩:ac)),(1000320,(⟨3,.int .i64,c,true,false⟩:ac)),(1000448,(⟨3,.int .i64,d,true,false⟩:ac))]
def me:aa:=⟨[1,3,4,5,7,8,9,34,35,62,63],[1],[],[],[(⟨false,3,0⟩,1000192),(⟨false,4,0⟩,1000256),(⟨false,5,0⟩,1000320),(⟨false,7,0⟩,1000448)]⟩
def CX(a b c d:LI)(e f g h i j:Int)(l:Bool)(m o:Int)(p:LI):St:=ah [(1,xb 1),(3,xo 1000192),(4,xo 1000256),(5,xo 1000320),(7,xo 1000448),(8,xi e),(9,xi f),(34,xi g),(35,xi h),(62,xi i),(63,xi j),(64,xB l)] [(1,(26,[yi m,yi o,.sn 3 tI p none]))] [(1000192,(⟨3,.int .i64,a,true,false⟩:ac)),(1000256,(⟨3,.int .i64,b,true,false⟩:ac)),(1000320,(⟨3,.int .i64,c,true,false⟩:ac)),(1000448,(⟨3,.int .i64,d,true,false⟩:ac))]
def UK:aa:=⟨[1,3,4,5,7,8,9,34,35,62,63,64],[1],[],[],[(⟨false,3,0⟩,1000192),(⟨false,4,0⟩,1000256),(⟨false,5,0⟩,1000320),(⟨false,7,0⟩,1000448)]⟩
def CY(a b c d:LI)(e f g h i j l m o:Int)(p:LI):St:=ah [(1,xb 1),(3,xo 1000192),(4,xo 1000256),(5,xo 1000320),(7,xo 1000448),(8,xi e),(9,xi f),(10,xi g),(34,xi h),(35,xi i),(62,xi j),(63,xi l)] [(1,(26,[yi m,yi o,.sn 3 tI p none]))] [(1000192,(⟨3,.int .i64,a,true,false⟩:ac)),(1000256,(⟨3,.int .i64,b,true,false⟩:ac)),(1000320,(⟨3,.int .i64,c,true,false⟩:ac)),(1000448,(⟨3,.int .i64,d,true,false⟩:ac))]
def UL:aa:=⟨[1,3,4,5,7,8,9,10,34,35,62,63],[1],[],[],[(⟨false,3,0⟩,1000192),(⟨false,4,0⟩,1000256),(⟨false,5,0⟩,1000320),(⟨false,7,0⟩,1000448)]⟩
def rB(a b c d:LI)(e f g h i j l m o p q:Int)(r:LI):St:=ah [(1,xb 1),(3,xo 1000192),(4,xo 1000256),(5,xo 1000320),(7,xo 1000448),(8,xi e),(9,xi f),(10,xi g),(11,xi h),(12,xi i),(34,xi j),(35,xi l),(62,xi m),(63,xi o)] [(1,(26,[yi p,yi q,.sn 3 tI r none]))] [(1000192,(⟨3,.int .i64,a,true,false⟩:ac)),(1000256,(⟨3,.int .i64,b,true,false⟩:ac)),(1000320,(⟨3,.int .i64,c,true,false⟩:ac)),(1000448,(⟨3,.int .i64,d,true,false⟩:ac))]
def CZ:aa:=⟨[1,3,4,5,7,8,9,10,11,12,34,35,62,63],[1],[],[],[(⟨false,3,0⟩,1000192),(⟨false,4,0⟩,1000256),(⟨false,5,0⟩,1000320),(⟨false,7,0⟩,1000448)]⟩
def kS(a b c d:LI)(e f g h i:Int)(j:LI):St:=ah [(1,xb 1),(3,xo 1000192),(4,xo 1000256),(5,xo 1000320),(7,xo 1000448),(16,xi e),(34,xi f),(35,xi g)] [(1,(26,[yi h,yi i,.sn 3 tI j none]))] [(1000192,(⟨3,.int .i64,a,true,false⟩:ac)),(1000256,(⟨3,.int .i64,b,true,false⟩:ac)),(1000320,(⟨3,.int .i64,c,true,false⟩:ac)),(1000448,(⟨3,.int .i64,d,true,false⟩:ac))]
def rC:aa:=⟨[1,3,4,5,7,16,34,35],[1],[],[],[(⟨false,3,0⟩,1000192),(⟨false,4,0⟩,1000256),(⟨false,5,0⟩,1000320),(⟨false,7,0⟩,1000448)]⟩
def rD(a b c d:LI)(e f g h i j l:Int)(m:LI):St:=ah [(1,xb 1),(3,xo 1000192),(4,xo 1000256),(5,xo 1000320),(7,xo 1000448),(16,xi e),(34,xi f),(35,xi g),(158,xo 1000448),(159,xi h),(160,xi i)] [(1,(26,[yi j,yi l,.sn 3 tI m none]))] [(1000192,(⟨3,.int .i64,a,true,false⟩:ac)),(1000256,(⟨3,.int .i64,b,true,false⟩:ac)),(1000320,(⟨3,.int .i64,c,true,false⟩:ac)),(1000448,(⟨3,.int .i64,d,true,false⟩:ac))]
def C0:aa:=⟨[1,3,4,5,7,16,34,35,158,159,160],[1],[],[],[(⟨false,3,0⟩,1000192),(⟨false,4,0⟩,1000256),(⟨false,5,0⟩,1000320),(⟨false,7,0⟩,1000448)]⟩
def C2(a b c d:LI)(e f g h i j:Int)(l:LI):St:=ah [(1,xb 1),(3,xo 1000192),(4,xo 1000256),(5,xo 1000320),(7,xo 1000448),(16,xi e),(19,xi f),(34,xi g),(35,xi h)] [(1,(26,[yi i,yi j,.sn 3 tI l none]))] [(1000192,(⟨3,.int .i64,a,true,false⟩:ac)),(1000256,(⟨3,.int .i64,b,true,false⟩:ac)),(1000320,(⟨3,.int .i64,c,true,false⟩:ac)),(1000448,(⟨3,.int .i64,d,true,false⟩:ac))]
def UM:aa:=⟨[1,3,4,5,7,16,19,34,35],[1],[],[],[(⟨false,3,0⟩,1000192),(⟨false,4,0⟩,1000256),(⟨false,5,0⟩,1000320),(⟨false,7,0⟩,1000448)]⟩
def rE(a b c d:LI)(e f g h i j l m:Int)(o:LI):St:=ah [(1,xb 1),(3,xo 1000192),(4,xo 1000256),(5,xo 1000320),(7,xo 1000448),(16,xi e),(19,xi f),(34,xi g),(35,xi h),(178,xo 1000448),(179,xi i),(180,xi j)] [(1,(26,[yi l,yi m,.sn 3 tI o none]))] [(1000192,(⟨3,.int .i64,a,true,false⟩:ac)),(1000256,(⟨3,.int .i64,b,true,false⟩:ac)),(1000320,(⟨3,.int .i64,c,true,false⟩:ac)),(1000448,(⟨3,.int .i64,d,true,false⟩:ac))]
def C3:aa:=⟨[1,3,4,5,7,16,19,34,35,178,179,180],[1],[],[],[(⟨false,3,0⟩,1000192),(⟨false,4,0⟩,1000256),(⟨false,5,0⟩,1000320),(⟨false,7,0⟩,1000448)]⟩
def ou(a b c d:LI)(e f g h i:Int)(j:LI):St:=ah [(1,xb 1),(3,xo 1000192),(4,xo 1000256),(5,xo 1000320),(7,xo 1000448),(19,xi e),(34,xi f),(35,xi g)] [(1,(26,[yi h,yi i,.sn 3 tI j none]))] [(1000192,(⟨3,.int .i64,a,true,false⟩:ac)),(1000256,(⟨3,.int .i64,b,true,false⟩:ac)),(1000320,(⟨3,.int .i64,c,true,false⟩:ac)),(1000448,(⟨3,.int .i64,d,true,false⟩:ac))]
def wA:aa:=⟨[1,3,4,5,7,19,34,35],[1],[],[],[(⟨false,3,0⟩,1000192),(⟨false,4,0⟩,1000256),(⟨false,5,0⟩,1000320),(⟨false,7,0⟩,1000448)]⟩
def rF(a b c d:LI)(e f g h i j l:Int)(m:LI):St:=ah [(1,xb 1),(3,xo 1000192),(4,xo 1000256),(5,xo 1000320),(19,xi e),(34,xi f),(35,xi g),(205,xo 1013120),(206,xi h),(207,xi i)] [(1,(26,[yi j,yi l,.sn 3 tI m none]))] [(1000192,(⟨3,.int .i64,a,true,false⟩:ac)),(1000256,(⟨3,.int .i64,b,true,false⟩:ac)),(1000320,(⟨3,.int .i64,c,true,false⟩:ac)),(1013120,(⟨3,.int .i64,d,true,false⟩:ac))]
def C4:aa:=⟨[1,3,4,5,19,34,35,205,206,207],[1],[],[],[(⟨false,3,0⟩,1000192),(⟨false,4,0⟩,1000256),(⟨false,5,0⟩,1000320),(⟨false,205,0⟩,1013120)]⟩
def mf(a:LI):St:=ah [(5,xo 1000320)] [] [(1000320,(⟨3,.int .i64,a,true,false⟩:ac))]
def wB:aa:=⟨[5],[],[],[],[(⟨false,5,0⟩,1000320)]⟩
def dU(a:LI):St:=ah [(2,xo 1001000128)] [] [(1001000128,(⟨3,.int .i64,a,true,true⟩:ac))]
def UN:aa:=⟨[2],[],[⟨⟨false,2,0⟩,30000000,3,.int .i64,true⟩],[],[(⟨false,2,0⟩,1001000128)]⟩
def UO:Nat->Option aa:=ay [(5,me),(4,jC),(3,jC),(2,rA),(6,rC),(8,wA),(10,jA),(1,jA),(0,wB),(1000000,UN)]
abbrev cu{J:Type}(N n:Nat)(V:St)(l:aa)(K:KT J):Option J:=ak CR be UO N (a6 99 (bf Try.f64) n) .n V (av (some l) K)
def UP N a (K:KT J):cu N 2 (UE a) UF K =
 aD.Z1 N a (λb c d=>K .nrm (CS b c d)):=by kernel_rfl
def UQ N a b c (K:KT J):cu N 5 (CS a b c) UG K =
 aD.Z3 N a b c (λd e a b c=>K .nrm (CT d e a b c)):=by kernel_rfl
def UR N a b c d e (K:KT J):cu N 11 (CT a b c d e) UH K =
 aD.Z5 N a b c d e (λa b f c d e=>K .nrm (CU a b f c d e)):=by kernel_rfl
def US N a b c d e f (K:KT J):cu N 39 (CU a b c d e f) jA K =
 aD.Z8 N a b c d e f (λa b c g h d e f=>K .nrm (fo a b c g h d e f)):=by kernel_rfl
def UT N a b c d e f g h (K:KT J):cu N 279 (fo a b c d e f g h) UI K =
 aD.Z12 N a b c d e f g h (λa b c d e i f g h=>K .nrm (CV a b c d e i f g h)):=by kernel_rfl
def UU N b c a d e i f g h (K:KT J):cu N 663 (CV b c a d e i f g h) jA K =
 aD.Z14 N b c a d e i f g h (λb c a d e f g h=>K .nrm (fo b c a d e f g h)) (λa=>K (.exit 0) (mf a)):=by kernel_rfl
def UV N a b c d e f g h (K:KT J):cu N 4503 (fo a b c d e f g h) wz K =
 aD.Z18 N a b c d e f g h (λa b c i d e f g h=>K .nrm (md a b c i d e f g h)):=by kernel_rfl
def UW N a b c i d e f g h (K:KT J):cu N 10647 (md a b c i d e f g h) wz K =
 aD.Z20 N a b c i d e f g h (λa b c i d e f g h=>K .nrm (md a b c i d e f g h)) (λa b c d e f g h=>K (.exit 1) (fo a b c d e f g h)):=by kernel_rfl
def UX N a b c d e f g h i (K:KT J):cu N 22935 (md a b c d e f g h i) wz K =
 aD.Z22 N a b c d e f g h i (λa b c d e f g h i=>K .nrm (md a b c d e f g h i)):=by kernel_rfl
def UY N a b c i d e f g h (K:KT J):cu N 47511 (md a b c i d e f g h) rA K =
 aD.Z24 N a b c i d e f g h (λa b c j d e f g h=>K .nrm (jB a b c j d e f g h)):=by kernel_rfl
def UZ N a b c d e f g h i (K:KT J):cu N 162199 (jB a b c d e f g h i) jC K =
 aD.Z27 N a b c d e f g h i (λa b c d j e f g h i=>K .nrm (fP a b c d j e f g h i)):=by kernel_rfl
def U0 N a b c d j e f g h i (K:KT J):cu N 1145239 (fP a b c d j e f g h i) jC K =
 aD.Z31 N a b c d j e f g h i (λa b c d j e f g h i=>K .nrm (fP a b c d j e f g h i)) (λa b c d e f g h i=>K (.exit 2) (jB a b c d e f g h i)):=by kernel_rfl
def U1 N a b c d e f g h i j (K:KT J):cu N 9009559 (fP a b c d e f g h i j) UJ K =
 aD.Z35 N a b c d e f g h i j (λa b c d e l f g h i j=>K .nrm (CW a b c d e l f g h i j)):=by kernel_rfl
def U2 N a b c d e f g h i j l (K:KT J):cu N 21592471 (CW a b c d e f g h i j l) me K =
 aD.Z37 N a b c d e f g h i j l (λa b c d e f g h m o i j l=>K .nrm (gL a b c d e f g h m o i j l)):=by kernel_rfl
def U3 N a b c d e f g h i j l m o (K:KT J):cu N 147421591 (gL a b c d e f g h i j l m o) UK K =
 aD.Z41 N a b c d e f g h i j l m o (λa b c d e f g h i j p l m o=>K .nrm (CX a b c d e f g h i j p l m o)):=by kernel_rfl
def U4 N a b c d e l f g m o p h i j (K:KT J):cu N 348748183 (CX a b c d e l f g m o p h i j) me K =
 aD.Z43 N a b c d e l f g m o p h i j (λa b c d e l f g m o h i j=>K .nrm (gL a b c d e l f g m o h i j)) (λa b c d e f g h i j=>K (.exit 4) (fP a b c d e f g h i j)):=by kernel_rfl
def U5 N a b c d e f g h i j l m o (K:KT J):cu N 2362014103 (gL a b c d e f g h i j l m o) UL K =
 aD.Z47 N a b c d e f g h i j l m o (λa b c d e f p g h i j l m o=>K .nrm (CY a b c d e f p g h i j l m o)):=by kernel_rfl
def U6 N a b c d e f g h i j l m o p (K:KT J):cu N 5583239575 (CY a b c d e f g h i j l m o p) CZ K =
 aD.Z49 N a b c d e f g h i j l m o p (λa b c d e f g q r h i j l m o p=>K .nrm (rB a b c d e f g q r h i j l m o p)):=by kernel_rfl
def U7 N a b c d e f p q r g h i j l m o (K:KT J):cu N 12025690519 (rB a b c d e f p q r g h i j l m o) CZ K =
 aD.Z51 N a b c d e f p q r g h i j l m o (λa b c d e f p q r g h i j l m o=>K .nrm (rB a b c d e f p q r g h i j l m o)) (λa b c d e f g h i j l m o=>K (.exit 5) (gL a b c d e f g h i j l m o)):=by kernel_rfl
def U8 N a b c d e f p q r g h i j l m o (K:KT J):cu N 16320657815 (rB a b c d e f p q r g h i j l m o) me K =
 aD.Z52 N a b c d e f p q r g h i j l m o (λa b c d e f g h i j l m o=>K .nrm (gL a b c d e f g h i j l m o)) (λs=>K .ret (dU s)):=by kernel_rfl
def U9 N a b c d e f p q r g h i j l m o (K:KT J):=vQ (λk=>aD.Z51 N a b c d e f p q r g h i j l m o k (λa b c d e f g h i j l m o=>K (.exit 5) (gL a b c d e f g h i j l m o))) (U7 N a b c d e f p q r g h i j l m o _) (zd λa b c d e f p q r g h i j l m o=>U8 N a b c d e f p q r g h i j l m o K)
def Va N a b c d e f g h i j l m o p (K:KT J):=vQ (λk=>aD.Z49 N a b c d e f g h i j l m o p k) (U6 N a b c d e f g h i j l m o p _) (zd λa b c d e f g q r h i j l m o p=>U9 N a b c d e f g q r h i j l m o p K)
def Vb N a b c d e f g h i j l m o (K:KT J):=vQ (λk=>aD.Z47 N a b c d e f g h i j l m o k) (U5 N a b c d e f g h i j l m o _) (p5 λa b c d e f p g h i j l m o=>Va N a b c d e f p g h i j l m o K)
def Vc N a b c d e f g h i j l m o (K:KT J):=vB 5 me K (aD.Z45 N a b c d e f g h i j l m o (λa b c d e f g h i j l m o=>K .nrm (gL a b c d e f g h i j l m o)) (λp=>K .ret (dU p))) (Vb N a b c d e f g h i j l m o _) (by kernel_rfl)
def Vd N a b c d e f g h i j l m o (K:KT J):cu N 1019836823 (gL a b c d e f g h i j l m o) me K =
 aD.Z53 N a b c d e f g h i j l m o (λa b c d e f g h i j l m o=>K .nrm (gL a b c d e f g h i j l m o)):=by kernel_rfl
def Ve N a b c d e f g h i j l m o (K:KT J):=vQ (λk=>aD.Z45 N a b c d e f g h i j l m o k (λp=>K .ret (dU p))) (Vc N a b c d e f g h i j l m o _) (nA λa b c d e f g h i j l m o=>Vd N a b c d e f g h i j l m o K)
def Vf N a b c d e l f g m o p h i j (K:KT J):=vQ (λk=>aD.Z43 N a b c d e l f g m o p h i j k (λa b c d e f g h i j=>K (.exit 4) (fP a b c d e f g h i j))) (U4 N a b c d e l f g m o p h i j _) (nA λa b c d e l f g m o h i j=>Ve N a b c d e l f g m o h i j K)
def Vg N a b c d e f g h i j l m o (K:KT J):=vQ (λk=>aD.Z41 N a b c d e f g h i j l m o k) (U3 N a b c d e f g h i j l m o _) (p5 λa b c d e f g h i j p l m o=>Vf N a b c d e f g h i j p l m o K)
def Vh N (K:KT J):=uD K (aD.Z39L N (λa b c d e f g h i j=>K (.exit 4) (fP a b c d e f g h i j)) (λl=>K .ret (dU l))) (λa b c d e m f g o p h i j k=>aD.Z40 N a b c d e m f g o p h i j k (λa b c d e f g h i j=>K (.exit 4) (fP a b c d e f g h i j)) (λl=>K .ret (dU l))) (λF a b c d e m f g o p h i j=>Vg N a b c d e m f g o p h i j _) (by kernel_rfl)
def Vi N a b c d e f g h i j l m o (K:KT J):=vL (gL a b c d e f g h i j l m o) (Vh N (jK jC K) N a b c d e f g h i j l m o) (by kernel_rfl)
def Vj N a b c d e l f g m o h i j (K:KT J):=vB 4 jC K (aD.Z38 N a b c d e l f g m o h i j (λa b c d e f g h i j=>K .nrm (fP a b c d e f g h i j)) (λp=>K .ret (dU p))) (Vi N a b c d e l f g m o h i j _) (by kernel_rfl)
def Vk N a b c d e f g h i j l (K:KT J):=vQ (λk=>aD.Z37 N a b c d e f g h i j l k) (U2 N a b c d e f g h i j l _) (nA λa b c d e f g h m o i j l=>Vj N a b c d e f g h m o i j l K)
def Vl N a b c d e f g h i j (K:KT J):=vQ (λk=>aD.Z35 N a b c d e f g h i j k) (U1 N a b c d e f g h i j _) (gB λa b c d e l f g h i j=>Vk N a b c d e l f g h i j K)
def Vm N a b c d e f g h i j (K:KT J):=vB 3 jC K (aD.Z33 N a b c d e f g h i j (λa b c d e f g h i j=>K .nrm (fP a b c d e f g h i j)) (λl=>K .ret (dU l))) (Vl N a b c d e f g h i j _) (by kernel_rfl)
def Vn N a b c d e f g h i j (K:KT J):cu N 3766679 (fP a b c d e f g h i j) jC K =
 aD.Z54 N a b c d e f g h i j (λa b c d e f g h i j=>K .nrm (fP a b c d e f g h i j)):=by kernel_rfl
def Vo N a b c d e f g h i j (K:KT J):=vQ (λk=>aD.Z33 N a b c d e f g h i j k (λl=>K .ret (dU l))) (Vm N a b c d e f g h i j _) (dC λa b c d e f g h i j=>Vn N a b c d e f g h i j K)
def Vp N a b c d j e f g h i (K:KT J):=vQ (λk=>aD.Z31 N a b c d j e f g h i k (λa b c d e f g h i=>K (.exit 2) (jB a b c d e f g h i))) (U0 N a b c d j e f g h i _) (dC λa b c d j e f g h i=>Vo N a b c d j e f g h i K)
def Vq N (K:KT J):=iq K (aD.Z29L N (λa b c d e f g h i=>K (.exit 2) (jB a b c d e f g h i)) (λj=>K .ret (dU j))) (λa b c d l e f g h i k=>aD.Z30 N a b c d l e f g h i k (λa b c d e f g h i=>K (.exit 2) (jB a b c d e f g h i)) (λj=>K .ret (dU j))) (λF a b c d l e f g h i=>Vp N a b c d l e f g h i _) (by kernel_rfl)
def Vr N a b c d e f g h i j (K:KT J):=vL (fP a b c d e f g h i j) (Vq N (jK rA K) N a b c d e f g h i j) (by kernel_rfl)
def Vs N a b c d j e f g h i (K:KT J):=vB 2 rA K (aD.Z28 N a b c d j e f g h i (λa b c d e f g h i=>K .nrm (jB a b c d e f g h i)) (λl=>K .ret (dU l))) (Vr N a b c d j e f g h i _) (by kernel_rfl)
def Vt N a b c d e f g h i (K:KT J):=vQ (λk=>aD.Z27 N a b c d e f g h i k) (UZ N a b c d e f g h i _) (dC λa b c d j e f g h i=>Vs N a b c d j e f g h i K)
def Vu N a b c d e f g h i (K:KT J):cu N 194967 (jB a b c d e f g h i) rC K =
 aD.Z56 N a b c d e f g h i (λa b c d j e f g h i=>K .nrm (kS a b c d j e f g h i)):=by kernel_rfl
def Vv N a b c d e f g h i j (K:KT J):cu N 653719 (kS a b c d e f g h i j) C0 K =
 aD.Z59 N a b c d e f g h i j (λa b c d e f g l m h i j=>K .nrm (rD a b c d e f g l m h i j)):=by kernel_rfl
def Vw N a b c d e f g l m h i j (K:KT J):cu N 2488727 (rD a b c d e f g l m h i j) C0 K =
 aD.Z62 N a b c d e f g l m h i j (λa b c d e f g l m h i j=>K .nrm (rD a b c d e f g l m h i j)) (λa b c d e f g h i j=>K (.exit 6) (kS a b c d e f g h i j)):=by kernel_rfl
def Vx N (K:KT J):=p7 K (aD.Z61L N (λa b c d e f g h i j=>K (.exit 6) (kS a b c d e f g h i j))) (λa b c d e f g l m h i j k=>aD.Z62 N a b c d e f g l m h i j k (λa b c d e f g h i j=>K (.exit 6) (kS a b c d e f g h i j))) (λF a b c d e f g l m h i j=>Vw N a b c d e f g l m h i j _) (by kernel_rfl)
def Vy N a b c d e f g h i j l m (K:KT J):=vL (rD a b c d e f g h i j l m) (Vx N (jK rC K) N a b c d e f g h i j l m) (by kernel_rfl)
def Vz N a b c d e f g l m h i j (K:KT J):=vB 6 rC K (aD.Z60 N a b c d e f g l m h i j (λa b c d e f g h i j=>K .nrm (kS a b c d e f g h i j))) (Vy N a b c d e f g l m h i j _) (by kernel_rfl)
def VA N a b c d e f g h i j (K:KT J):=vQ (λk=>aD.Z59 N a b c d e f g h i j k) (Vv N a b c d e f g h i j _) (nz λa b c d e f g l m h i j=>Vz N a b c d e f g l m h i j K)
def VB N a b c d e f g h i j (K:KT J):cu N 784791 (kS a b c d e f g h i j) UM K =
 aD.Z64 N a b c d e f g h i j (λa b c d e l f g h i j=>K .nrm (C2 a b c d e l f g h i j)):=by kernel_rfl
def VC N a b c d e f g h i j l (K:KT J):cu N 2619799 (C2 a b c d e f g h i j l) C3 K =
 aD.Z67 N a b c d e f g h i j l (λa b c d e f g h m o i j l=>K .nrm (rE a b c d e f g h m o i j l)):=by kernel_rfl
def VD N a b c d l e f g m o h i j (K:KT J):cu N 9959831 (rE a b c d l e f g m o h i j) C3 K =
 aD.Z70 N a b c d l e f g m o h i j (λa b c d l e f g m o h i j=>K .nrm (rE a b c d l e f g m o h i j)) (λa b c d e f g h i j=>K (.exit 8) (ou a b c d e f g h i j)):=by kernel_rfl
def VE N (K:KT J):=uD K (aD.Z69L N (λa b c d e f g h i j=>K (.exit 8) (ou a b c d e f g h i j))) (λa b c d l e f g m o h i j k=>aD.Z70 N a b c d l e f g m o h i j k (λa b c d e f g h i j=>K (.exit 8) (ou a b c d e f g h i j))) (λF a b c d l e f g m o h i j=>VD N a b c d l e f g m o h i j _) (by kernel_rfl)
def VF N a b c d e f g h i j l m o (K:KT J):=vL (rE a b c d e f g h i j l m o) (VE N (jK wA K) N a b c d e f g h i j l m o) (by kernel_rfl)
def VG N a b c d l e f g m o h i j (K:KT J):=vB 8 wA K (aD.Z68 N a b c d l e f g m o h i j (λa b c d e f g h i j=>K .nrm (ou a b c d e f g h i j))) (VF N a b c d l e f g m o h i j _) (by kernel_rfl)
def VH N a b c d e f g h i j l (K:KT J):=vQ (λk=>aD.Z67 N a b c d e f g h i j l k) (VC N a b c d e f g h i j l _) (nA λa b c d e f g h m o i j l=>VG N a b c d e f g h m o i j l K)
def VI N a b c j d e f g h i (K:KT J):cu N 3144087 (ou a b c j d e f g h i) C4 K =
 aD.Z72 N a b c j d e f g h i (λa b c l d e f m o g h i=>K .nrm (rF a b c l d e f m o g h i)):=by kernel_rfl
def VJ N a b c i j d e l m f g h (K:KT J):cu N 10484119 (rF a b c i j d e l m f g h) C4 K =
 aD.Z75 N a b c i j d e l m f g h (λa b c i j d e l m f g h=>K .nrm (rF a b c i j d e l m f g h)) (λa b c d e f g h=>K (.exit 10) (fo a b c d e f g h)):=by kernel_rfl
def VK N (K:KT J):=p7 K (aD.Z74L N (λa b c d e f g h=>K (.exit 10) (fo a b c d e f g h))) (λa b c i j d e l m f g h k=>aD.Z75 N a b c i j d e l m f g h k (λa b c d e f g h=>K (.exit 10) (fo a b c d e f g h))) (λF a b c i j d e l m f g h=>VJ N a b c i j d e l m f g h _) (by kernel_rfl)
def VL N a b c d e f g h i j l m (K:KT J):=vL (rF a b c d e f g h i j l m) (VK N (jK jA K) N a b c d e f g h i j l m) (by kernel_rfl)
def VM N a b c i j d e l m f g h (K:KT J):=vB 10 jA K (aD.Z73 N a b c i j d e l m f g h (λa b c d e f g h=>K .nrm (fo a b c d e f g h))) (VL N a b c i j d e l m f g h _) (by kernel_rfl)
def VN N a b c j d e f g h i (K:KT J):=vQ (λk=>aD.Z72 N a b c j d e f g h i k) (VI N a b c j d e f g h i _) (nz λa b c l d e f m o g h i=>VM N a b c l d e f m o g h i K)
def VO N a b c d l e f g h i j (K:KT J):=vQ (λk=>aD.Z66 N a b c d l e f g h i j k) (VH N a b c d l e f g h i j _) (dC λa b c d e f g h i j=>VN N a b c d e f g h i j K)
def VP N a b c d e f g h i j (K:KT J):=vQ (λk=>aD.Z64 N a b c d e f g h i j k) (VB N a b c d e f g h i j _) (gB λa b c d e l f g h i j=>VO N a b c d e l f g h i j K)
def VQ N a b c d e f g h i j (K:KT J):=vQ (λk=>aD.Z58 N a b c d e f g h i j k) (VA N a b c d e f g h i j _) (dC λa b c d e f g h i j=>VP N a b c d e f g h i j K)
def VR N a b c d e f g h i (K:KT J):=vQ (λk=>aD.Z56 N a b c d e f g h i k) (Vu N a b c d e f g h i _) (dC λa b c d j e f g h i=>VQ N a b c d j e f g h i K)
def VS N a b c d e f g h i (K:KT J):=vQ (λk=>aD.Z26 N a b c d e f g h i k (λj=>K .ret (dU j))) (Vt N a b c d e f g h i _) (dB λa b c d e f g h i=>VR N a b c d e f g h i K)
def VT N a b c i d e f g h (K:KT J):=vQ (λk=>aD.Z24 N a b c i d e f g h k) (UY N a b c i d e f g h _) (dB λa b c j d e f g h=>VS N a b c j d e f g h K)
def VU N a b c d e f g h i (K:KT J):=vQ (λk=>aD.Z22 N a b c d e f g h i k) (UX N a b c d e f g h i _) (dB λa b c d e f g h i=>VT N a b c d e f g h i K)
def VV N a b c i d e f g h (K:KT J):=vQ (λk=>aD.Z20 N a b c i d e f g h k (λa b c d e f g h=>K (.exit 1) (fo a b c d e f g h))) (UW N a b c i d e f g h _) (dB λa b c i d e f g h=>VU N a b c i d e f g h K)
def VW N a b c d e f g h (K:KT J):=vQ (λk=>aD.Z18 N a b c d e f g h k) (UV N a b c d e f g h _) (dB λa b c i d e f g h=>VV N a b c i d e f g h K)
def VX N a b c d e f g h (K:KT J):=vB 1 jA K (aD.Z16 N a b c d e f g h (λa b c d e f g h=>K .nrm (fo a b c d e f g h)) (λi=>K .ret (dU i))) (VW N a b c d e f g h _) (by kernel_rfl)
def VY N a b c d e f g h (K:KT J):cu N 1943 (fo a b c d e f g h) jA K =
 aD.Z76 N a b c d e f g h (λa b c d e f g h=>K .nrm (fo a b c d e f g h)):=by kernel_rfl
def VZ N a b c d e f g h (K:KT J):=vQ (λk=>aD.Z16 N a b c d e f g h k (λi=>K .ret (dU i))) (VX N a b c d e f g h _) (dA λa b c d e f g h=>VY N a b c d e f g h K)
def V0 N b c a d e i f g h (K:KT J):=vQ (λk=>aD.Z14 N b c a d e i f g h k (λa=>K (.exit 0) (mf a))) (UU N b c a d e i f g h _) (dA λb c a d e f g h=>VZ N b c a d e f g h K)
def V1 N a b c d e f g h (K:KT J):=vQ (λk=>aD.Z12 N a b c d e f g h k) (UT N a b c d e f g h _) (dB λa b c d e i f g h=>V0 N a b c d e i f g h K)
def V2 N (K:KT J):=lL K (aD.Z10L N (λa=>K (.exit 0) (mf a)) (λb=>K .ret (dU b))) (λc d a e f g h i k=>aD.Z11 N c d a e f g h i k (λa=>K (.exit 0) (mf a)) (λb=>K .ret (dU b))) (λF c d a e f g h i=>V1 N c d a e f g h i _) (by kernel_rfl)
def V3 N a b c d e f g h (K:KT J):=vL (fo a b c d e f g h) (V2 N (jK wB K) N a b c d e f g h) (by kernel_rfl)
def V4 N b c a d e f g h (K:KT J):=vB 0 wB K (aD.Z9 N b c a d e f g h (λa=>K .nrm (mf a)) (λi=>K .ret (dU i))) (V3 N b c a d e f g h _) (by kernel_rfl)
def V5 N a b c d e f (K:KT J):=vQ (λk=>aD.Z8 N a b c d e f k) (US N a b c d e f _) (dA λa b c g h d e f=>V4 N a b c g h d e f K)
def V6 N a (K:KT J):cu N 31 (mf a) UD K =
 aD.Z77 N a (λb=>K .ret (dU b)):=by kernel_rfl
def V7 N b c a d e f (K:KT J):=vQ (λk=>aD.Z7 N b c a d e f k (λg=>K .ret (dU g))) (V5 N b c a d e f _) (funext λa=>V6 N a K)
def V8 N a b c d e (K:KT J):=vQ (λk=>aD.Z5 N a b c d e k) (UR N a b c d e _) (dz λa b f c d e=>V7 N a b f c d e K)
def V9 N a b c (K:KT J):=vQ (λk=>aD.Z3 N a b c k) (UQ N a b c _) (bZ λd e a b c=>V8 N d e a b c K)
def Wa N a (K:KT J):=vQ (λk=>aD.Z1 N a k) (UP N a _) (dP λb c d=>V9 N b c d K)
def Wb(h:aD.Spec):aB Try.prog 64 wy :=
 bI Try.func64 bg UC (λN X K=>Wa N X.1 K) (by kernel_rfl) λX hb hp=>by obtain⟨a,_⟩:=X;obtain⟨N,h⟩:=h a hb.1 hp;exact⟨N,Eq.trans (by kernel_rfl) (h N (Nat.le_refl N))⟩
def Wc:aB Try.prog 64 wy:=Wb aD.ok
def C5:bv:=⟨[⟨.pair (.int .i64) (.pair (.int .i64) (.sl 3 (.int .i64))),true,false⟩],[⟨.bool,false,false⟩]⟩
def rG:aW:=⟨C5,none,λX=>((),((gj.g X.1),()))⟩
def C6:Gm:=aR (aR ba 63 wu) 64 wy
def Wd:aq Try.prog C6:=((aq.nil).add Uc (by kernel_rfl)).add Wc (by kernel_rfl)
def We:aa:=⟨[],[],[],[],[]⟩
def Wf(a:MT):St:=bz C5.ps (a,())
def Wg(a:Bool):St:=ah [(2,xB a)] [] []
def Wh:aa:=⟨[2],[],[],[],[]⟩
def Wi:Nat->Option aa:=ay [(1000000,Wh)]
abbrev Wj{J:Type}(N n:Nat)(V:St)(l:aa)(K:KT J):Option J:=ak C6 be Wi N (a6 99 (bf Try.f61) n) .n V (av (some l) K)
def Wk N a (K:KT J):Wj N 1 (Wf a) We K =
 gj.Z0 N a (λb=>K .ret (Wg b)):=by kernel_rfl
def Wl(h:gj.Spec):aB Try.prog 61 rG :=
 bI Try.func61 bg Wd (λN X K=>Wk N X.1 K) (by kernel_rfl) λX hb hp=>by obtain⟨a,_⟩:=X;obtain⟨N,h⟩:=h a hb.1;exact⟨N,Eq.trans (by kernel_rfl) (h N (Nat.le_refl N))⟩
def C7:aB Try.prog 61 rG:=Wl gj.ok
def C8:bv:=⟨[⟨.sl 3 (.int .i64),false,false⟩],[⟨.sl 3 (.int .i64),false,false⟩]⟩
def rH:aW:=⟨C8,(some λX=>dJ.P X.1),λX=>((),((dJ.g X.1),()))⟩
def C9:Gm:=ba
def Wm:aq Try.prog C9:=aq.nil
def Wn:aa:=⟨[],[],[],[],[]⟩
def Wo(a:LI):St:=bz C8.ps (a,())
def Wp(a:LI):St:=ah [(2,xo 1000128)] [] [(1000128,(⟨3,.int .i64,a,true,false⟩:ac))]
def Wq:aa:=⟨[2],[],[⟨⟨false,2,0⟩,30000000,3,.int .i64,true⟩],[],[(⟨false,2,0⟩,1000128)]⟩
def Wr:Nat->Option aa:=ay [(1000000,Wq)]
abbrev Ws{J:Type}(N n:Nat)(V:St)(l:aa)(K:KT J):Option J:=ak C9 be Wr N (a6 99 (bf Try.f62) n) .n V (av (some l) K)
def Wt N a (K:KT J):Ws N 1 (Wo a) Wn K =
 dJ.Z0 N a (λb=>K .ret (Wp b)):=by kernel_rfl
def Wu(h:dJ.Spec):aB Try.prog 62 rH :=
 bI Try.func62 bg Wm (λN X K=>Wt N X.1 K) (by kernel_rfl) λX hb hp=>by obtain⟨a,_⟩:=X;obtain⟨N,h⟩:=h a hb.1 hp;exact⟨N,Eq.trans (by kernel_rfl) (h N (Nat.le_refl N))⟩
def Da:aB Try.prog 62 rH:=Wu dJ.ok
def Db:bv:=⟨[⟨.pair (.int .i64) (.pair (.int .i64) (.sl 3 (.int .i64))),true,false⟩],[⟨.pair (.int .i64) (.pair (.int .i64) (.sl 3 (.int .i64))),true,false⟩,⟨.bool,false,false⟩]⟩
def rI:aW:=⟨Db,none,λX=>((),((a8.g X.1).1,((a8.g X.1).2,())))⟩
def Dc:Gm:=aR (aR ba 61 rG) 62 rH
def Wv:aq Try.prog Dc:=((aq.nil).add C7 (by kernel_rfl)).add Da (by kernel_rfl)
def Ww:aa:=⟨[],[],[],[],[]⟩
def Wx(a:MT):St:=bz Db.ps (a,())
def rJ(a b:Int)(c:LI)(d e:Int):St:=ah [(1,xb 1),(2,xb 2)] [(1,(26,[yi a,yi b,.sn 3 tI c none])),(2,(26,[yi d,yi e,.nil]))] []
def Dd:aa:=⟨[1,2],[1,2],[],[],[]⟩
def De(a:LI)(b c:Int)(d:LI)(e f g h:Int):St:=ah [(1,xb 1),(2,xb 2),(4,xb 4)] [(1,(26,[yi b,yi c,.sn 3 tI d none])),(2,(26,[yi e,yi f,.nil])),(4,(26,[yi g,yi h,.own 20000258]))] [(20000258,(⟨3,.int .i64,a,true,false⟩:ac))]
def Wy:aa:=⟨[1,2,4],[1,2,4],[],[],[(⟨true,4,2⟩,20000258)]⟩
def gh(a:LI)(b c d:Int)(e:LI)(f g h i:Int):St:=ah [(1,xb 1),(2,xb 2),(4,xb 4),(5,xi b)] [(1,(26,[yi c,yi d,.sn 3 tI e none])),(2,(26,[yi f,yi g,.nil])),(4,(26,[yi h,yi i,.own 20000258]))] [(20000258,(⟨3,.int .i64,a,true,false⟩:ac))]
def jD:aa:=⟨[1,2,4,5],[1,2,4],[],[],[(⟨true,4,2⟩,20000258)]⟩
def rK(a:LI)(b c d e:Int)(f:LI)(g h i j:Int):St:=ah [(1,xb 1),(2,xb 2),(4,xb 4),(5,xi b),(6,xi c)] [(1,(26,[yi d,yi e,.sn 3 tI f none])),(2,(26,[yi g,yi h,.nil])),(4,(26,[yi i,yi j,.own 20000258]))] [(20000258,(⟨3,.int .i64,a,true,false⟩:ac))]
def Df:aa:=⟨[1,2,4,5,6],[1,2,4],[],[],[(⟨true,4,2⟩,20000258)]⟩
def mg(a:LI)(b c d e:Int):St:=ah [(2,xb 2),(4,xb 4)] [(2,(26,[yi b,yi c,.nil])),(4,(26,[yi d,yi e,.own 20000258]))] [(20000258,(⟨3,.int .i64,a,true,false⟩:ac))]
def wC:aa:=⟨[2,4],[2,4],[],[],[(⟨true,4,2⟩,20000258)]⟩
def wD(a:LI)(b:Bool)(c d:Int):St:=ah [(2,xb 2),(3,xB b)] [(2,(26,[yi c,yi d,.own 20000130]))] [(20000130,(⟨3,.int .i64,a,true,false⟩:ac))]
def Wz:aa:=⟨[2,3],[2],[⟨⟨true,2,2⟩,30000000,3,.int .i64,true⟩],[],[(⟨true,2,2⟩,20000130)]⟩
def WA:Nat->Option aa:=ay [(2,jD),(1,jD),(0,wC),(1000000,Wz)]
abbrev iF{J:Type}(N n:Nat)(V:St)(l:aa)(K:KT J):Option J:=ak Dc be WA N (a6 99 (bf Try.f30) n) .n V (av (some l) K)
def WB N a (K:KT J):iF N 2 (Wx a) Dd K =
 a8.Z1 N a (λb c d e f=>K .nrm (rJ b c d e f)):=by kernel_rfl
def WC N c d e a b (K:KT J):iF N 5 (rJ c d e a b) Dd K =
 a8.Z3 N c d e a b (λc d e a b=>K .nrm (rJ c d e a b)) (λf g a b=>K .ret (wD f g a b)):=by kernel_rfl
def WD N a b c d e (K:KT J):iF N 11 (rJ a b c d e) Wy K =
 a8.Z5 N a b c d e (λf a b c d e g h=>K .nrm (De f a b c d e g h)):=by kernel_rfl
def WE N a b c d e f g h (K:KT J):iF N 39 (De a b c d e f g h) jD K =
 a8.Z8 N a b c d e f g h (λa i b c d e f g h=>K .nrm (gh a i b c d e f g h)):=by kernel_rfl
def WF N a f g h i b c d e (K:KT J):iF N 279 (gh a f g h i b c d e) jD K =
 a8.Z12 N a f g h i b c d e (λa f g h i b c d e=>K .nrm (gh a f g h i b c d e)) (λa b c d e=>K (.exit 0) (mg a b c d e)):=by kernel_rfl
def WG N a b c d e f g h i (K:KT J):iF N 2199 (gh a b c d e f g h i) Df K =
 a8.Z16 N a b c d e f g h i (λa b j c d e f g h i=>K .nrm (rK a b j c d e f g h i)):=by kernel_rfl
def WH N a b j c d e f g h i (K:KT J):iF N 9367 (rK a b j c d e f g h i) Df K =
 a8.Z19 N a b j c d e f g h i (λa b j c d e f g h i=>K .nrm (rK a b j c d e f g h i)) (λa b c d e f g h i=>K (.exit 2) (gh a b c d e f g h i)):=by kernel_rfl
def WI N (K:KT J):=iq K (a8.Z18L N (λa b c d e f g h i=>K (.exit 2) (gh a b c d e f g h i))) (λa b j c d e f g h i k=>a8.Z19 N a b j c d e f g h i k (λa b c d e f g h i=>K (.exit 2) (gh a b c d e f g h i))) (λF a b j c d e f g h i=>WH N a b j c d e f g h i _) (by kernel_rfl)
def WJ N a b c d e f g h i j (K:KT J):=vL (rK a b c d e f g h i j) (WI N (jK jD K) N a b c d e f g h i j) (by kernel_rfl)
def WK N a b j c d e f g h i (K:KT J):=vB 2 jD K (a8.Z17 N a b j c d e f g h i (λa b c d e f g h i=>K .nrm (gh a b c d e f g h i))) (WJ N a b j c d e f g h i _) (by kernel_rfl)
def WL N a b c d e f g h i (K:KT J):=vQ (λk=>a8.Z16 N a b c d e f g h i k) (WG N a b c d e f g h i _) (dC λa b j c d e f g h i=>WK N a b j c d e f g h i K)
def WM N a b c d e f g h i (K:KT J):=vB 1 jD K (a8.Z14 N a b c d e f g h i (λa b c d e f g h i=>K .nrm (gh a b c d e f g h i))) (WL N a b c d e f g h i _) (by kernel_rfl)
def WN N a b c d e f g h i (K:KT J):iF N 919 (gh a b c d e f g h i) jD K =
 a8.Z20 N a b c d e f g h i (λa b c d e f g h i=>K .nrm (gh a b c d e f g h i)):=by kernel_rfl
def WO N a b c d e f g h i (K:KT J):=vQ (λk=>a8.Z14 N a b c d e f g h i k) (WM N a b c d e f g h i _) (dB λa b c d e f g h i=>WN N a b c d e f g h i K)
def WP N a f g h i b c d e (K:KT J):=vQ (λk=>a8.Z12 N a f g h i b c d e k (λa b c d e=>K (.exit 0) (mg a b c d e))) (WF N a f g h i b c d e _) (dB λa f g h i b c d e=>WO N a f g h i b c d e K)
def WQ N (K:KT J):=nC K (a8.Z10L N (λa b c d e=>K (.exit 0) (mg a b c d e))) (λa f g h i b c d e k=>a8.Z11 N a f g h i b c d e k (λa b c d e=>K (.exit 0) (mg a b c d e))) (λF a f g h i b c d e=>WP N a f g h i b c d e _) (by kernel_rfl)
def WR N a b c d e f g h i (K:KT J):=vL (gh a b c d e f g h i) (WQ N (jK wC K) N a b c d e f g h i) (by kernel_rfl)
def WS N a f g h i b c d e (K:KT J):=vB 0 wC K (a8.Z9 N a f g h i b c d e (λa b c d e=>K .nrm (mg a b c d e))) (WR N a f g h i b c d e _) (by kernel_rfl)
def WT N a b c d e f g h (K:KT J):=vQ (λk=>a8.Z8 N a b c d e f g h k) (WE N a b c d e f g h _) (dB λa i b c d e f g h=>WS N a i b c d e f g h K)
def WU N c a b d e (K:KT J):iF N 31 (mg c a b d e) Ww K =
 a8.Z21 N c a b d e (λf g a b=>K .ret (wD f g a b)):=by kernel_rfl
def WV N a f g h b c d e (K:KT J):=vQ (λk=>a8.Z7 N a f g h b c d e k) (WT N a f g h b c d e _) (bZ λa b c d e=>WU N a b c d e K)
def WW N a b c d e (K:KT J):=vQ (λk=>a8.Z5 N a b c d e k) (WD N a b c d e _) (dA λf a b c d e g h=>WV N f a b c d e g h K)
def WX N c d e a b (K:KT J):=vQ (λk=>a8.Z3 N c d e a b k (λf g a b=>K .ret (wD f g a b))) (WC N c d e a b _) (bZ λc d e a b=>WW N c d e a b K)
def WY N a (K:KT J):=vQ (λk=>a8.Z1 N a k) (WB N a _) (bZ λb c d e f=>WX N b c d e f K)
def WZ(h:a8.Spec):aB Try.prog 30 rI :=
 bI Try.func30 bg Wv (λN X K=>WY N X.1 K) (by kernel_rfl) λX hb hp=>by obtain⟨a,_⟩:=X;obtain⟨N,h⟩:=h a hb.1;exact⟨N,Eq.trans (by kernel_rfl) (h N (Nat.le_refl N))⟩
def Dg:aB Try.prog 30 rI:=WZ a8.ok
def Dh:bv:=⟨[⟨.pair (.int .i64) (.pair (.int .i64) (.sl 3 (.int .i64))),true,false⟩,⟨.int .i64,false,false⟩],[⟨.int .i64,false,false⟩]⟩
def rL:aW:=⟨Dh,(some λX=>cG.P X.1 X.2.1),λX=>((),((cG.g X.1 X.2.1),()))⟩
def Di:Gm:=aR ba 60 mc
def W0:aq Try.prog Di:=(aq.nil).add ru (by kernel_rfl)
def W3:aa:=⟨[],[],[],[],[]⟩
def W4(a:MT)(b:Int):St:=bz Dh.ps (a,(b,()))
def Dj(a b c:Int)(d:LI):St:=ah [(1,xi a),(2,xb 2)] [(2,(26,[yi b,yi c,.sn 3 tI d none]))] []
def W5:aa:=⟨[1,2],[2],[],[],[]⟩
def Dk(a:Int)(b c:Bool)(d e:Int)(f:LI):St:=ah [(1,xi a),(2,xb 2),(5,xB b),(6,xB c)] [(2,(26,[yi d,yi e,.sn 3 tI f none]))] []
def W6:aa:=⟨[1,2,5,6],[2],[],[],[]⟩
def rM(a:Int)(b c:Bool)(d e f:Int)(g:LI):St:=ah [(1,xi a),(2,xb 2),(5,xB b),(6,xB c),(7,xi d)] [(2,(26,[yi e,yi f,.sn 3 tI g none]))] []
def Dl:aa:=⟨[1,2,5,6,7],[2],[],[],[]⟩
def ov(a b:Bool):St:=ah [(5,xB a),(6,xB b)] [] []
def wE:aa:=⟨[5,6],[],[],[],[]⟩
def W7(a:Int):St:=ah [(4,xi a)] [] []
def W8:aa:=⟨[4],[],[],[],[]⟩
def W9:Nat->Option aa:=ay [(0,wE),(1000000,W8)]
abbrev ow{J:Type}(N n:Nat)(V:St)(l:aa)(K:KT J):Option J:=ak Di be W9 N (a6 99 (bf Try.f66) n) .n V (av (some l) K)
def Xa N b a (K:KT J):ow N 2 (W4 b a) W5 K =
 cG.Z1 N b a (λa c d e=>K .nrm (Dj a c d e)):=by kernel_rfl
def Xb N a b c d (K:KT J):ow N 5 (Dj a b c d) W6 K =
 cG.Z3 N a b c d (λa e f b c d=>K .nrm (Dk a e f b c d)):=by kernel_rfl
def Xc N a b c d e f (K:KT J):ow N 19 (Dk a b c d e f) Dl K =
 cG.Z6 N a b c d e f (λa b c g d e f=>K .nrm (rM a b c g d e f)):=by kernel_rfl
def Xd N c a b d e f g (K:KT J):ow N 75 (rM c a b d e f g) Dl K =
 cG.Z9 N c a b d e f g (λc a b d e f g=>K .nrm (rM c a b d e f g)) (λa b=>K (.exit 0) (ov a b)):=by kernel_rfl
def Xe N (K:KT J):=kC K (cG.Z8L N (λa b=>K (.exit 0) (ov a b))) (λc a b d e f g k=>cG.Z9 N c a b d e f g k (λa b=>K (.exit 0) (ov a b))) (λF c a b d e f g=>Xd N c a b d e f g _) (by kernel_rfl)
def Xf N a b c d e f g (K:KT J):=vL (rM a b c d e f g) (Xe N (jK wE K) N a b c d e f g) (by kernel_rfl)
def Xg N c a b d e f g (K:KT J):=vB 0 wE K (cG.Z7 N c a b d e f g (λa b=>K .nrm (ov a b))) (Xf N c a b d e f g _) (by kernel_rfl)
def Xh N a b c d e f (K:KT J):=vQ (λk=>cG.Z6 N a b c d e f k) (Xc N a b c d e f _) (eI λa b c g d e f=>Xg N a b c g d e f K)
def Xi N a b (K:KT J):ow N 15 (ov a b) W3 K =
 cG.Z10 N a b (λc=>K .ret (W7 c)):=by kernel_rfl
def Xj N c a b d e f (K:KT J):=vQ (λk=>cG.Z5 N c a b d e f k) (Xh N c a b d e f _) (eH λa b=>Xi N a b K)
def Xk N a b c d (K:KT J):=vQ (λk=>cG.Z3 N a b c d k) (Xb N a b c d _) (dz λa e f b c d=>Xj N a e f b c d K)
def Xl N b a (K:KT J):=vQ (λk=>cG.Z1 N b a k) (Xa N b a _) (dQ λa c d e=>Xk N a c d e K)
def Xm(h:cG.Spec):aB Try.prog 66 rL :=
 bI Try.func66 bg W0 (λN X K=>Xl N X.1 X.2.1 K) (by kernel_rfl) λX hb hp=>by obtain⟨a,b,_⟩:=X;obtain⟨N,h⟩:=h a b hb.1 hp;exact⟨N,Eq.trans (by kernel_rfl) (h N (Nat.le_refl N))⟩
def Dm:aB Try.prog 66 rL:=Xm cG.ok
def Dn:bv:=⟨[⟨.pair (.int .i64) (.pair (.int .i64) (.sl 3 (.int .i64))),true,false⟩,⟨.int .i64,false,false⟩],[⟨.pair (.int .i64) (.pair (.int .i64) (.sl 3 (.int .i64))),true,false⟩]⟩
def wF:aW:=⟨Dn,(some λX=>bD.P X.1 X.2.1),λX=>((),((bD.g X.1 X.2.1),()))⟩
def Do:Gm:=aR (aR ba 60 mc) 62 rH
def Xn:aq Try.prog Do:=((aq.nil).add ru (by kernel_rfl)).add Da (by kernel_rfl)
def Xo:aa:=⟨[],[],[],[],[]⟩
def Xp(a:MT)(b:Int):St:=bz Dn.ps (a,(b,()))
def Dp(a b c:Int)(d:LI)(e f:Int):St:=ah [(1,xi a),(2,xb 2),(4,xb 4)] [(2,(26,[yi b,yi c,.sn 3 tI d none])),(4,(26,[yi e,yi f,.nil]))] []
def Xq:aa:=⟨[1,2,4],[2,4],[],[],[]⟩
def Dq(a:LI)(b c d:Int)(e:LI)(f g h i:Int):St:=ah [(1,xi b),(2,xb 2),(4,xb 4),(5,xb 5)] [(2,(26,[yi c,yi d,.sn 3 tI e none])),(4,(26,[yi f,yi g,.nil])),(5,(26,[yi h,yi i,.own 20000322]))] [(20000322,(⟨3,.int .i64,a,true,false⟩:ac))]
def Xr:aa:=⟨[1,2,4,5],[2,4,5],[],[],[(⟨true,5,2⟩,20000322)]⟩
def fQ(a:LI)(b c d e:Int)(f:LI)(g h i j:Int):St:=ah [(1,xi b),(2,xb 2),(4,xb 4),(5,xb 5),(6,xi c)] [(2,(26,[yi d,yi e,.sn 3 tI f none])),(4,(26,[yi g,yi h,.nil])),(5,(26,[yi i,yi j,.own 20000322]))] [(20000322,(⟨3,.int .i64,a,true,false⟩:ac))]
def jE:aa:=⟨[1,2,4,5,6],[2,4,5],[],[],[(⟨true,5,2⟩,20000322)]⟩
def hU(a:LI)(b c d e f:Int)(g:LI)(h i j l:Int):St:=ah [(1,xi b),(2,xb 2),(4,xb 4),(5,xb 5),(6,xi c),(7,xi d)] [(2,(26,[yi e,yi f,.sn 3 tI g none])),(4,(26,[yi h,yi i,.nil])),(5,(26,[yi j,yi l,.own 20000322]))] [(20000322,(⟨3,.int .i64,a,true,false⟩:ac))]
def jF:aa:=⟨[1,2,4,5,6,7],[2,4,5],[],[],[(⟨true,5,2⟩,20000322)]⟩
def Dr(a:LI)(b d e f g h:Int)(i:LI)(j l m o:Int):St:=ah [(1,xi b),(2,xb 2),(4,xb 4),(5,xb 5),(6,xi d),(7,xi e),(8,.c (.elt 20000322 f 0))] [(2,(26,[yi g,yi h,.sn 3 tI i none])),(4,(26,[yi j,yi l,.nil])),(5,(26,[yi m,yi o,.own 20000322]))] [(20000322,(⟨3,.int .i64,a,true,false⟩:ac))]
def Xs:aa:=⟨[1,2,4,5,6,7,8],[2,4,5],[],[],[(⟨true,5,2⟩,20000322)]⟩
def Ds(a:LI)(b d e f g h i j:Int)(l:LI)(m o p q:Int):St:=ah [(1,xi b),(2,xb 2),(4,xb 4),(5,xb 5),(6,xi d),(7,xi e),(8,.c (.elt 20000322 f 0)),(9,xi g),(10,xi h)] [(2,(26,[yi i,yi j,.sn 3 tI l none])),(4,(26,[yi m,yi o,.nil])),(5,(26,[yi p,yi q,.own 20000322]))] [(20000322,(⟨3,.int .i64,a,true,false⟩:ac))]
def Xt:aa:=⟨[1,2,4,5,6,7,8,9,10],[2,4,5],[],[],[(⟨true,5,2⟩,20000322)]⟩
def Dt(a:LI)(b d e f g h:Int)(i:Bool)(j l:Int)(m:LI)(o p q r:Int):St:=ah [(1,xi b),(2,xb 2),(4,xb 4),(5,xb 5),(6,xi d),(7,xi e),(8,.c (.elt 20000322 f 0)),(9,xi g),(10,xi h),(48,xB i)] [(2,(26,[yi j,yi l,.sn 3 tI m none])),(4,(26,[yi o,yi p,.nil])),(5,(26,[yi q,yi r,.own 20000322]))] [(20000322,(⟨3,.int .i64,a,true,false⟩:ac))]
def Xu:aa:=⟨[1,2,4,5,6,7,8,9,10,48],[2,4,5],[],[],[(⟨true,5,2⟩,20000322)]⟩
def mh(a:LI)(b c d e:Int):St:=ah [(4,xb 4),(5,xb 5)] [(4,(26,[yi b,yi c,.nil])),(5,(26,[yi d,yi e,.own 20000322]))] [(20000322,(⟨3,.int .i64,a,true,false⟩:ac))]
def wG:aa:=⟨[4,5],[4,5],[],[],[(⟨true,5,2⟩,20000322)]⟩
def Xv(a:LI)(b c:Int):St:=ah [(4,xb 4)] [(4,(26,[yi b,yi c,.own 20000258]))] [(20000258,(⟨3,.int .i64,a,true,false⟩:ac))]
def Xw:aa:=⟨[4],[4],[],[],[(⟨true,4,2⟩,20000258)]⟩
def Xx:Nat->Option aa:=ay [(4,jF),(3,jF),(2,jE),(1,jE),(0,wG),(1000000,Xw)]
abbrev fR{J:Type}(N n:Nat)(V:St)(l:aa)(K:KT J):Option J:=ak Do be Xx N (a6 99 (bf Try.f79) n) .n V (av (some l) K)
def Xy N b a (K:KT J):fR N 2 (Xp b a) Xq K =
 bD.Z1 N b a (λa c d e f g=>K .nrm (Dp a c d e f g)):=by kernel_rfl
def Xz N a b c d e f (K:KT J):fR N 5 (Dp a b c d e f) Xr K =
 bD.Z3 N a b c d e f (λg a b c d e f h i=>K .nrm (Dq g a b c d e f h i)):=by kernel_rfl
def XA N a b c d e f g h i (K:KT J):fR N 19 (Dq a b c d e f g h i) jE K =
 bD.Z6 N a b c d e f g h i (λa b j c d e f g h i=>K .nrm (fQ a b j c d e f g h i)):=by kernel_rfl
def XB N a f g h i j b c d e (K:KT J):fR N 139 (fQ a f g h i j b c d e) jE K =
 bD.Z10 N a f g h i j b c d e (λa f g h i j b c d e=>K .nrm (fQ a f g h i j b c d e)) (λa b c d e=>K (.exit 0) (mh a b c d e)):=by kernel_rfl
def XC N a b c d e f g h i j (K:KT J):fR N 1099 (fQ a b c d e f g h i j) jF K =
 bD.Z14 N a b c d e f g h i j (λa b c l d e f g h i j=>K .nrm (hU a b c l d e f g h i j)):=by kernel_rfl
def XD N a b c l d e f g h i j (K:KT J):fR N 8779 (hU a b c l d e f g h i j) jF K =
 bD.Z18 N a b c l d e f g h i j (λa b c l d e f g h i j=>K .nrm (hU a b c l d e f g h i j)) (λa b c d e f g h i j=>K (.exit 2) (fQ a b c d e f g h i j)):=by kernel_rfl
def XE N a b c d e f g h i j l (K:KT J):fR N 70219 (hU a b c d e f g h i j l) Xs K =
 bD.Z22 N a b c d e f g h i j l (λa b c d m e f g h i j l=>K .nrm (Dr a b c d m e f g h i j l)):=by kernel_rfl
def XF N a b c d e f g h i j l m (K:KT J):fR N 168523 (Dr a b c d e f g h i j l m) Xt K =
 bD.Z24 N a b c d e f g h i j l m (λa b c d e o p f g h i j l m=>K .nrm (Ds a b c d e o p f g h i j l m)):=by kernel_rfl
def XG N a b c d e f g h i j l m o p (K:KT J):fR N 627275 (Ds a b c d e f g h i j l m o p) Xu K =
 bD.Z27 N a b c d e f g h i j l m o p (λa b c d e f g q h i j l m o p=>K .nrm (Dt a b c d e f g q h i j l m o p)):=by kernel_rfl
def XH N a b c d m o p q e f g h i j l (K:KT J):fR N 889419 (Dt a b c d m o p q e f g h i j l) jF K =
 bD.Z28 N a b c d m o p q e f g h i j l (λa b c d e f g h i j l=>K .nrm (hU a b c d e f g h i j l)):=by kernel_rfl
def XI N a b c d e f g h i j l m o p (K:KT J):=vQ (λk=>bD.Z27 N a b c d e f g h i j l m o p k) (XG N a b c d e f g h i j l m o p _) (GC λa b c d e f g q h i j l m o p=>XH N a b c d e f g q h i j l m o p K)
def XJ N a b c d m o p e f g h i j l (K:KT J):=vB 4 jF K (bD.Z25 N a b c d m o p e f g h i j l (λa b c d e f g h i j l=>K .nrm (hU a b c d e f g h i j l))) (XI N a b c d m o p e f g h i j l _) (by kernel_rfl)
def XK N a b c d e f g h i j l m (K:KT J):=vQ (λk=>bD.Z24 N a b c d e f g h i j l m k) (XF N a b c d e f g h i j l m _) (p5 λa b c d e o p f g h i j l m=>XJ N a b c d e o p f g h i j l m K)
def XL N a b c d e f g h i j l (K:KT J):=vQ (λk=>bD.Z22 N a b c d e f g h i j l k) (XE N a b c d e f g h i j l _) (nz λa b c d m e f g h i j l=>XK N a b c d m e f g h i j l K)
def XM N a b c d e f g h i j l (K:KT J):=vB 3 jF K (bD.Z20 N a b c d e f g h i j l (λa b c d e f g h i j l=>K .nrm (hU a b c d e f g h i j l))) (XL N a b c d e f g h i j l _) (by kernel_rfl)
def XN N a b c d e f g h i j l (K:KT J):fR N 29259 (hU a b c d e f g h i j l) jF K =
 bD.Z29 N a b c d e f g h i j l (λa b c d e f g h i j l=>K .nrm (hU a b c d e f g h i j l)):=by kernel_rfl
def XO N a b c d e f g h i j l (K:KT J):=vQ (λk=>bD.Z20 N a b c d e f g h i j l k) (XM N a b c d e f g h i j l _) (gB λa b c d e f g h i j l=>XN N a b c d e f g h i j l K)
def XP N a b c l d e f g h i j (K:KT J):=vQ (λk=>bD.Z18 N a b c l d e f g h i j k (λa b c d e f g h i j=>K (.exit 2) (fQ a b c d e f g h i j))) (XD N a b c l d e f g h i j _) (gB λa b c l d e f g h i j=>XO N a b c l d e f g h i j K)
def XQ N (K:KT J):=p6 K (bD.Z16L N (λa b c d e f g h i j=>K (.exit 2) (fQ a b c d e f g h i j))) (λa b c l d e f g h i j k=>bD.Z17 N a b c l d e f g h i j k (λa b c d e f g h i j=>K (.exit 2) (fQ a b c d e f g h i j))) (λF a b c l d e f g h i j=>XP N a b c l d e f g h i j _) (by kernel_rfl)
def XR N a b c d e f g h i j l (K:KT J):=vL (hU a b c d e f g h i j l) (XQ N (jK jE K) N a b c d e f g h i j l) (by kernel_rfl)
def XS N a b c l d e f g h i j (K:KT J):=vB 2 jE K (bD.Z15 N a b c l d e f g h i j (λa b c d e f g h i j=>K .nrm (fQ a b c d e f g h i j))) (XR N a b c l d e f g h i j _) (by kernel_rfl)
def XT N a b c d e f g h i j (K:KT J):=vQ (λk=>bD.Z14 N a b c d e f g h i j k) (XC N a b c d e f g h i j _) (gB λa b c l d e f g h i j=>XS N a b c l d e f g h i j K)
def XU N a b c d e f g h i j (K:KT J):=vB 1 jE K (bD.Z12 N a b c d e f g h i j (λa b c d e f g h i j=>K .nrm (fQ a b c d e f g h i j))) (XT N a b c d e f g h i j _) (by kernel_rfl)
def XV N a b c d e f g h i j (K:KT J):fR N 459 (fQ a b c d e f g h i j) jE K =
 bD.Z30 N a b c d e f g h i j (λa b c d e f g h i j=>K .nrm (fQ a b c d e f g h i j)):=by kernel_rfl
def XW N a b c d e f g h i j (K:KT J):=vQ (λk=>bD.Z12 N a b c d e f g h i j k) (XU N a b c d e f g h i j _) (dC λa b c d e f g h i j=>XV N a b c d e f g h i j K)
def XX N a f g h i j b c d e (K:KT J):=vQ (λk=>bD.Z10 N a f g h i j b c d e k (λa b c d e=>K (.exit 0) (mh a b c d e))) (XB N a f g h i j b c d e _) (dC λa f g h i j b c d e=>XW N a f g h i j b c d e K)
def XY N (K:KT J):=iq K (bD.Z8L N (λa b c d e=>K (.exit 0) (mh a b c d e))) (λa f g h i j b c d e k=>bD.Z9 N a f g h i j b c d e k (λa b c d e=>K (.exit 0) (mh a b c d e))) (λF a f g h i j b c d e=>XX N a f g h i j b c d e _) (by kernel_rfl)
def XZ N a b c d e f g h i j (K:KT J):=vL (fQ a b c d e f g h i j) (XY N (jK wG K) N a b c d e f g h i j) (by kernel_rfl)
def X0 N a f g h i j b c d e (K:KT J):=vB 0 wG K (bD.Z7 N a f g h i j b c d e (λa b c d e=>K .nrm (mh a b c d e))) (XZ N a f g h i j b c d e _) (by kernel_rfl)
def X1 N a b c d e f g h i (K:KT J):=vQ (λk=>bD.Z6 N a b c d e f g h i k) (XA N a b c d e f g h i _) (dC λa b j c d e f g h i=>X0 N a b j c d e f g h i K)
def X2 N c a b d e (K:KT J):fR N 15 (mh c a b d e) Xo K =
 bD.Z31 N c a b d e (λf a b=>K .ret (Xv f a b)):=by kernel_rfl
def X3 N a f g h i b c d e (K:KT J):=vQ (λk=>bD.Z5 N a f g h i b c d e k) (X1 N a f g h i b c d e _) (bZ λa b c d e=>X2 N a b c d e K)
def X4 N a b c d e f (K:KT J):=vQ (λk=>bD.Z3 N a b c d e f k) (Xz N a b c d e f _) (dB λg a b c d e f h i=>X3 N g a b c d e f h i K)
def X5 N b a (K:KT J):=vQ (λk=>bD.Z1 N b a k) (Xy N b a _) (dz λa c d e f g=>X4 N a c d e f g K)
def X6(h:bD.Spec):aB Try.prog 79 wF :=
 bI Try.func79 bg Xn (λN X K=>X5 N X.1 X.2.1 K) (by kernel_rfl) λX hb hp=>by obtain⟨a,b,_⟩:=X;obtain⟨N,h⟩:=h a b hb.1 hp;exact⟨N,Eq.trans (by kernel_rfl) (h N (Nat.le_refl N))⟩
def X7:aB Try.prog 79 wF:=X6 bD.ok
end Go.Fw
