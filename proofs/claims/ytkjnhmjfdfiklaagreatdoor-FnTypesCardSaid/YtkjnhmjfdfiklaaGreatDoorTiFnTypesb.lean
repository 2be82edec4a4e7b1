/- The ties: the program's text comes to the plain functions. Nothing is assumed. -/
import Derived.Test.YtkjnhmjfdfiklaaGreatDoorPuFnTypesc
import Derived.Test.YtkjnhmjfdfiklaaGreatDoorTiFnTypesa
import Derived.Test.YtkjnhmjfdfiklaaGreatDoorChecked
import Derived.Test.YtkjnhmjfdfiklaaGreatDoorFza
noncomputable section
set_option linter.defProp false
set_option linter.unusedSectionVars false
set_option linter.unusedVariables false
set_option linter.unusedSimpArgs false
set_option maxRecDepth 100000
namespace Go.Fw
variable {J : Type}
open Go.Proofs
def Ir:bc:=⟨[⟨.int .i64,false,false⟩],[⟨.sl 22 (.sl 3 (.int .i64)),false,false⟩]⟩
def AS:aQ:=⟨Ir,(some λX=>bK.P X.1),λX=>((),((bK.g X.1),()))⟩
def Is:Gm:=addM (aK be 69 pN) 115 AR
def f80GOk:av Tryz.prog Is:=((av.nil).add vq (by kernel_rfl)).addM e115ok (by kernel_rfl)
def f80lE:ab:=⟨[],[],[],[],[]⟩
def f80s0(a:Int):St:=bA Ir.ps (a,())
def It(a:Int):St:=ah [(0,xi a)] [] []
def f80l1:ab:=⟨[0],[],[],[],[]⟩
def Iu(a:LL)(b:Int):St:=ah [(0,xi b),(3,xo 1000192)] [] [(1000192,(⟨22,.sl 3 tI,a,true,false⟩:ae))]
def f80l2:ab:=⟨[0,3],[],[],[],[(⟨false,3,0⟩,1000192)]⟩
def kV(a:LL)(b c:Int):St:=ah [(0,xi b),(3,xo 1000192),(4,xi c)] [] [(1000192,(⟨22,.sl 3 tI,a,true,false⟩:ae))]
def pP:ab:=⟨[0,3,4],[],[],[],[(⟨false,3,0⟩,1000192)]⟩
def Iv(a:LL)(b d:Int):St:=ah [(0,xi b),(3,xo 1000192),(4,xi d),(5,.c (.nil))] [] [(1000192,(⟨22,.sl 3 tI,a,true,false⟩:ae))]
def f80l4:ab:=⟨[0,3,4,5],[],[],[],[(⟨false,3,0⟩,1000192)]⟩
def Iw(a:LL)(b d e f:Int):St:=ah [(0,xi b),(4,xi d),(5,.c (.nil)),(15,xo 1000960),(16,xi e),(17,xi f)] [] [(1000960,(⟨22,.sl 3 tI,a,true,false⟩:ae))]
def f80l5:ab:=⟨[0,4,5,15,16,17],[],[],[],[(⟨false,15,0⟩,1000960)]⟩
def mf(a b:LL)(c d e f:Int):St:=ah [(0,xi c),(4,xi d),(5,xo 1000320),(15,xo 1000960),(16,xi e),(17,xi f)] [] [(1000320,(⟨22,.sl 3 tI,a,true,false⟩:ae)),(1000960,(⟨22,.sl 3 tI,b,true,false⟩:ae))]
def pQ:ab:=⟨[0,4,5,15,16,17],[],[],[],[(⟨false,5,0⟩,1000320),(⟨false,15,0⟩,1000960)]⟩
def Ix(a b:LL)(c d e f:Int):St:=ah [(0,xi c),(4,xi d),(5,xo 1000320),(15,xo 1000960),(16,xi e),(17,xi f)] [] [(1000320,(⟨22,.sl 3 tI,a,true,false⟩:ae)),(1000960,(⟨22,.sl 3 tI,b,true,false⟩:ae))]
def f80l11:ab:=⟨[0,4,5,15,16,17],[],[⟨⟨false,5,0⟩,30000000,22,.sl 3 (.int .i64),true⟩],[],[(⟨false,5,0⟩,1000320),(⟨false,15,0⟩,1000960)]⟩
def Iy(a b:LL)(c d e f:Int)(g:Bool):St:=ah [(0,xi c),(4,xi d),(5,xo 1000320),(15,xo 1000960),(16,xi e),(17,xi f),(18,xB g)] [] [(1000320,(⟨22,.sl 3 tI,a,true,false⟩:ae)),(1000960,(⟨22,.sl 3 tI,b,true,false⟩:ae))]
def f80l12:ab:=⟨[0,4,5,15,16,17,18],[],[],[],[(⟨false,5,0⟩,1000320),(⟨false,15,0⟩,1000960)]⟩
def Iz(a b:LL)(d e:Int)(f:LI)(g h:Int):St:=ah [(0,xi d),(4,xi e),(5,xo 1000320),(7,.c (.sn 3 tI f (some 1000960))),(15,xo 1000960),(16,xi g),(17,xi h)] [] [(1000320,(⟨22,.sl 3 tI,a,true,false⟩:ae)),(1000960,(⟨22,.sl 3 tI,b,true,false⟩:ae))]
def f80l13:ab:=⟨[0,4,5,7,15,16,17],[],[],[],[(⟨false,5,0⟩,1000320),(⟨false,15,0⟩,1000960)]⟩
def vw(a b:LL)(d e:Int)(f:LI)(g h i:Int):St:=ah [(0,xi d),(4,xi e),(5,xo 1000320),(7,.c (.sn 3 tI f (some 1000960))),(8,xi g),(15,xo 1000960),(16,xi h),(17,xi i)] [] [(1000320,(⟨22,.sl 3 tI,a,true,false⟩:ae)),(1000960,(⟨22,.sl 3 tI,b,true,false⟩:ae))]
def IA:ab:=⟨[0,4,5,7,8,15,16,17],[],[],[],[(⟨false,5,0⟩,1000320),(⟨false,15,0⟩,1000960)]⟩
def pR(a:LL)(b c:Int):St:=ah [(0,xi b),(4,xi c),(5,xo 1000320)] [] [(1000320,(⟨22,.sl 3 tI,a,true,false⟩:ae))]
def AT:ab:=⟨[0,4,5],[],[],[],[(⟨false,5,0⟩,1000320)]⟩
def pS(a:LL):St:=ah [(3,xo 1000192)] [] [(1000192,(⟨22,.sl 3 tI,a,true,false⟩:ae))]
def AU:ab:=⟨[3],[],[],[],[(⟨false,3,0⟩,1000192)]⟩
def f80s17(a:LL):St:=ah [(2,xo 1000128)] [] [(1000128,(⟨22,.sl 3 tI,a,true,false⟩:ae))]
def f80l17:ab:=⟨[2],[],[],[],[(⟨false,2,0⟩,1000128)]⟩
def f80B:Nat->Option ab:=aA [(4,pQ),(3,pQ),(2,AT),(1,pP),(0,AU),(1000000,f80l17)]
abbrev gH{J:Type}(N n:Nat)(V:St)(l:ab)(K:KT J):Option J:=am Is bg f80B N (aZ 99 (bm Tryz.f80) n) .n V (az (some l) K)
def f80t1 N a (K:KT J):gH N 2 (f80s0 a) f80l1 K =
 bK.Z1 N a (λa=>K .nrm (It a)):=by kernel_rfl
def f80t3 N a (K:KT J):gH N 5 (It a) f80l2 K =
 bK.Z3 N a (λb a=>K .nrm (Iu b a)):=by kernel_rfl
def f80t6 N a b (K:KT J):gH N 19 (Iu a b) pP K =
 bK.Z6 N a b (λa b c=>K .nrm (kV a b c)):=by kernel_rfl
def f80t10 N a b c (K:KT J):gH N 139 (kV a b c) pP K =
 bK.Z10 N a b c (λa b c=>K .nrm (kV a b c)) (λa=>K (.exit 0) (pS a)):=by kernel_rfl
def f80t14 N a b c (K:KT J):gH N 1099 (kV a b c) f80l4 K =
 bK.Z14 N a b c (λa b c=>K .nrm (Iv a b c)):=by kernel_rfl
def f80t17 N c a b (K:KT J):gH N 4683 (Iv c a b) f80l5 K =
 bK.Z17 N c a b (λd a b e f=>K .nrm (Iw d a b e f)):=by kernel_rfl
def f80t21 N a b c d e f (K:KT J):gH N 35403 (Ix a b c d e f) f80l12 K =
 bK.Z21 N a b c d e f (λa b c d e f g=>K .nrm (Iy a b c d e f g)):=by kernel_rfl
def f80t23 N a d b c e f g (K:KT J):gH N 84555 (Iy a d b c e f g) pQ K =
 bK.Z23 N a d b c e f g (λa d b c e f=>K .nrm (mf a d b c e f)) (λa b c=>K (.exit 2) (pR a b c)):=by kernel_rfl
def f80t27 N a b c d e f (K:KT J):gH N 576075 (mf a b c d e f) f80l13 K =
 bK.Z27 N a b c d e f (λa b c d g e f=>K .nrm (Iz a b c d g e f)):=by kernel_rfl
def f80t29 N a b c d e f g (K:KT J):gH N 1362507 (Iz a b c d e f g) IA K =
 bK.Z29 N a b c d e f g (λa b c d e h f g=>K .nrm (vw a b c d e h f g)):=by kernel_rfl
def f80t32 N a b c d g h e f (K:KT J):gH N 5032523 (vw a b c d g h e f) IA K =
 bK.Z32 N a b c d g h e f (λa b c d g h e f=>K .nrm (vw a b c d g h e f)) (λa b c d e f=>K (.exit 4) (mf a b c d e f)):=by kernel_rfl
def f80t31L N (K:KT J):=lG K (bK.Z31L N (λa b c d e f=>K (.exit 4) (mf a b c d e f))) (λa b c d g h e f k=>bK.Z32 N a b c d g h e f k (λa b c d e f=>K (.exit 4) (mf a b c d e f))) (λF a b c d g h e f=>f80t32 N a b c d g h e f _) (by kernel_rfl)
def f80t31 N a b c d e f g h (K:KT J):=vL (vw a b c d e f g h) (f80t31L N (jK pQ K) N a b c d e f g h) (by kernel_rfl)
def f80t30 N a b c d g h e f (K:KT J):=vB 4 pQ K (bK.Z30 N a b c d g h e f (λa b c d e f=>K .nrm (mf a b c d e f))) (f80t31 N a b c d g h e f _) (by kernel_rfl)
def f80t28 N a b c d e f g (K:KT J):=vQ (λk=>bK.Z29 N a b c d e f g k) (f80t29 N a b c d e f g _) (dy λa b c d e h f g=>f80t30 N a b c d e h f g K)
def f80t26 N a b c d e f (K:KT J):=vQ (λk=>bK.Z27 N a b c d e f k) (f80t27 N a b c d e f _) (fa λa b c d g e f=>f80t28 N a b c d g e f K)
def f80t25 N a b c d e f (K:KT J):=vB 3 pQ K (bK.Z25 N a b c d e f (λa b c d e f=>K .nrm (mf a b c d e f))) (f80t26 N a b c d e f _) (by kernel_rfl)
def f80t33 N a b c d e f (K:KT J):gH N 248395 (mf a b c d e f) f80l11 K =
 bK.Z33 N a b c d e f (λa b c d e f=>K .nrm (Ix a b c d e f)):=by kernel_rfl
def f80t24 N a b c d e f (K:KT J):=vQ (λk=>bK.Z25 N a b c d e f k) (f80t25 N a b c d e f _) (cN λa b c d e f=>f80t33 N a b c d e f K)
def f80t22 N a d b c e f g (K:KT J):=vQ (λk=>bK.Z23 N a d b c e f g k (λa b c=>K (.exit 2) (pR a b c))) (f80t23 N a d b c e f g _) (cN λa d b c e f=>f80t24 N a d b c e f K)
def f80t20 N a b c d e f (K:KT J):=vQ (λk=>bK.Z21 N a b c d e f k) (f80t21 N a b c d e f _) (fa λa b c d e f g=>f80t22 N a b c d e f g K)
def f80t19L N (K:KT J):=lF K (bK.Z19L N (λa b c=>K (.exit 2) (pR a b c))) (λa d b c e f k=>bK.Z20 N a d b c e f k (λa b c=>K (.exit 2) (pR a b c))) (λF a d b c e f=>f80t20 N a d b c e f _) (by kernel_rfl)
def f80t19 N a b c d e (K:KT J):=vL (Iw a b c d e) (f80t19L N (jK AT K) N ([]:List (LI)) a b c d e) (by kernel_rfl)
def f80t18 N c a b d e (K:KT J):=vB 2 AT K (bK.Z18 N c a b d e (λf a b=>K .nrm (pR f a b))) (f80t19 N c a b d e _) (by kernel_rfl)
def f80t16 N c a b (K:KT J):=vQ (λk=>bK.Z17 N c a b k) (f80t17 N c a b _) (cH λd a b e f=>f80t18 N d a b e f K)
def f80t34 N c a b (K:KT J):gH N 3659 (pR c a b) pP K =
 bK.Z34 N c a b (λd a b=>K .nrm (kV d a b)):=by kernel_rfl
def f80t15 N c a b (K:KT J):=vQ (λk=>bK.Z16 N c a b k) (f80t16 N c a b _) (cW λd a b=>f80t34 N d a b K)
def f80t13 N a b c (K:KT J):=vQ (λk=>bK.Z14 N a b c k) (f80t14 N a b c _) (cW λa b c=>f80t15 N a b c K)
def f80t12 N a b c (K:KT J):=vB 1 pP K (bK.Z12 N a b c (λa b c=>K .nrm (kV a b c))) (f80t13 N a b c _) (by kernel_rfl)
def f80t35 N a b c (K:KT J):gH N 459 (kV a b c) pP K =
 bK.Z35 N a b c (λa b c=>K .nrm (kV a b c)):=by kernel_rfl
def f80t11 N a b c (K:KT J):=vQ (λk=>bK.Z12 N a b c k) (f80t12 N a b c _) (cW λa b c=>f80t35 N a b c K)
def f80t9 N a b c (K:KT J):=vQ (λk=>bK.Z10 N a b c k (λa=>K (.exit 0) (pS a))) (f80t10 N a b c _) (cW λa b c=>f80t11 N a b c K)
def f80t8L N (K:KT J):=j0 K (bK.Z8L N (λa=>K (.exit 0) (pS a))) (λa b c k=>bK.Z9 N a b c k (λa=>K (.exit 0) (pS a))) (λF a b c=>f80t9 N a b c _) (by kernel_rfl)
def f80t8 N a b c (K:KT J):=vL (kV a b c) (f80t8L N (jK AU K) N a b c) (by kernel_rfl)
def f80t7 N a b c (K:KT J):=vB 0 AU K (bK.Z7 N a b c (λa=>K .nrm (pS a))) (f80t8 N a b c _) (by kernel_rfl)
def f80t5 N a b (K:KT J):=vQ (λk=>bK.Z6 N a b k) (f80t6 N a b _) (cW λa b c=>f80t7 N a b c K)
def f80t36 N a (K:KT J):gH N 15 (pS a) f80lE K =
 bK.Z36 N a (λb=>K .ret (f80s17 b)):=by kernel_rfl
def f80t4 N a b (K:KT J):=vQ (λk=>bK.Z5 N a b k) (f80t5 N a b _) (funext λa=>f80t36 N a K)
def f80t2 N a (K:KT J):=vQ (λk=>bK.Z3 N a k) (f80t3 N a _) (eN λb a=>f80t4 N b a K)
def f80t0 N a (K:KT J):=vQ (λk=>bK.Z1 N a k) (f80t1 N a _) (funext λa=>f80t2 N a K)
def f80ok(h:bK.Spec):ay Tryz.prog 80 AS :=
 bI Tryz.func80 bu f80GOk (λN X K=>f80t0 N X.1 K) (by kernel_rfl) λX hb hp=>by obtain⟨a,_⟩:=X;obtain⟨N,h⟩:=h a hp;exact⟨N,Eq.trans (by kernel_rfl) (h N (Nat.le_refl N))⟩
def e80ok:ay Tryz.prog 80 AS:=f80ok bK.ok
def IB:bc:=⟨[⟨.sl 3 (.int .i64),false,false⟩,⟨.int .i64,false,false⟩],[⟨.int .i64,false,false⟩]⟩
def AV:aQ:=⟨IB,none,λX=>((),((fz.g X.1 X.2.1),()))⟩
def IC:Gm:=be
def f182GOk:av Tryz.prog IC:=av.nil
def f182lE:ab:=⟨[],[],[],[],[]⟩
def f182s0(a:LI)(b:Int):St:=bA IB.ps (a,(b,()))
def ID(a:LI)(b:Int):St:=ah [(0,.c (.sn 3 tI a none)),(1,xi b)] [] []
def f182l1:ab:=⟨[0,1],[],[],[],[]⟩
def vz(a:LI)(b d e:Int):St:=ah [(0,.c (.sn 3 tI a none)),(1,xi b),(7,xi d),(8,xi e)] [] []
def IE:ab:=⟨[0,1,7,8],[],[],[],[]⟩
def sq :St:=ah [] [] []
def AW:ab:=⟨[],[],[],[],[]⟩
def pT(a:Int):St:=ah [(4,xi a)] [] []
def f182l4:ab:=⟨[4],[],[],[],[]⟩
def f182B:Nat->Option ab:=aA [(0,AW),(1000000,f182l4)]
abbrev vA{J:Type}(N n:Nat)(V:St)(l:ab)(K:KT J):Option J:=am IC bg f182B N (aZ 99 (bm Tryz.f182) n) .n V (az (some l) K)
def f182t1 N a b (K:KT J):vA N 2 (f182s0 a b) f182l1 K =
 fz.Z1 N a b (λa b=>K .nrm (ID a b)):=by kernel_rfl
def f182t4 N a b (K:KT J):vA N 9 (ID a b) IE K =
 fz.Z4 N a b (λa b c d=>K .nrm (vz a b c d)):=by kernel_rfl
def f182t7 N a b c d (K:KT J):vA N 37 (vz a b c d) IE K =
 fz.Z7 N a b c d (λa b c d=>K .nrm (vz a b c d)) (K (.exit 0) sq) (λe=>K .ret (pT e)):=by kernel_rfl
def f182t6L N (K:KT J):=q7 K (fz.Z6L N (K (.exit 0) sq) (λa=>K .ret (pT a))) (λb c d e k=>fz.Z7 N b c d e k (K (.exit 0) sq) (λa=>K .ret (pT a))) (λF b c d e=>f182t7 N b c d e _) (by kernel_rfl)
def f182t6 N a b c d (K:KT J):=vL (vz a b c d) (f182t6L N (jK AW K) N a b c d) (by kernel_rfl)
def f182t5 N a b c d (K:KT J):=vB 0 AW K (fz.Z5 N a b c d (K .nrm sq) (λe=>K .ret (pT e))) (f182t6 N a b c d _) (by kernel_rfl)
def f182t3 N a b (K:KT J):=vQ (λk=>fz.Z4 N a b k) (f182t4 N a b _) (eO λa b c d=>f182t5 N a b c d K)
def f182t8 N  (K:KT J):vA N 7 sq f182lE K =
 fz.Z8 N (λa=>K .ret (pT a)):=by kernel_rfl
def f182t2 N a b (K:KT J):=vQ (λk=>fz.Z3 N a b k (λc=>K .ret (pT c))) (f182t3 N a b _) (f182t8 N K)
def f182t0 N a b (K:KT J):=vQ (λk=>fz.Z1 N a b k) (f182t1 N a b _) (eN λa b=>f182t2 N a b K)
def f182ok(h:fz.Spec):ay Tryz.prog 182 AV :=
 bI Tryz.func182 bu f182GOk (λN X K=>f182t0 N X.1 X.2.1 K) (by kernel_rfl) λX hb hp=>by obtain⟨a,b,_⟩:=X;obtain⟨N,h⟩:=h a b hb.1;exact⟨N,Eq.trans (by kernel_rfl) (h N (Nat.le_refl N))⟩
def e182ok:ay Tryz.prog 182 AV:=f182ok fz.ok
def IF:bc:=⟨[⟨.sl 3 (.int .i64),false,false⟩,⟨.int .i64,false,false⟩],[⟨.bool,false,false⟩]⟩
def AX:aQ:=⟨IF,none,λX=>((),((la.g X.1 X.2.1),()))⟩
def IG:Gm:=aK be 182 AV
def f157GOk:av Tryz.prog IG:=(av.nil).add e182ok (by kernel_rfl)
def f157lE:ab:=⟨[],[],[],[],[]⟩
def f157s0(a:LI)(b:Int):St:=bA IF.ps (a,(b,()))
def f157s1(a:Bool):St:=ah [(4,xB a)] [] []
def f157l1:ab:=⟨[4],[],[],[],[]⟩
def f157B:Nat->Option ab:=aA [(1000000,f157l1)]
abbrev f157j{J:Type}(N n:Nat)(V:St)(l:ab)(K:KT J):Option J:=am IG bg f157B N (aZ 99 (bm Tryz.f157) n) .n V (az (some l) K)
def f157t0 N a b (K:KT J):f157j N 1 (f157s0 a b) f157lE K =
 la.Z0 N a b (λc=>K .ret (f157s1 c)):=by kernel_rfl
def f157ok(h:la.Spec):ay Tryz.prog 157 AX :=
 bI Tryz.func157 bu f157GOk (λN X K=>f157t0 N X.1 X.2.1 K) (by kernel_rfl) λX hb hp=>by obtain⟨a,b,_⟩:=X;obtain⟨N,h⟩:=h a b hb.1;exact⟨N,Eq.trans (by kernel_rfl) (h N (Nat.le_refl N))⟩
def e157ok:ay Tryz.prog 157 AX:=f157ok la.ok
def IH:bc:=⟨[⟨.sl 3 (.int .i64),false,false⟩,⟨.int .i64,false,false⟩],[⟨.bool,false,false⟩]⟩
def AY:aQ:=⟨IH,none,λX=>((),((eV.g X.1 X.2.1),()))⟩
def II:Gm:=aK (aK be 91 pF) 157 AX
def f116GOk:av Tryz.prog II:=((av.nil).add vd (by kernel_rfl)).add e157ok (by kernel_rfl)
def f116lE:ab:=⟨[],[],[],[],[]⟩
def f116s0(a:LI)(b:Int):St:=bA IH.ps (a,(b,()))
def vC(a:LI)(b:Int):St:=ah [(0,.c (.sn 3 tI a none)),(1,xi b)] [] []
def IJ:ab:=⟨[0,1],[],[],[],[]⟩
def vD(a:LI)(b:Int)(d:LI)(e f:Int):St:=ah [(0,.c (.sn 3 tI a none)),(1,xi b),(11,.c (.sn 3 tI d none)),(12,xi e),(13,xi f)] [] []
def IK:ab:=⟨[0,1,11,12,13],[],[],[],[]⟩
def sr :St:=ah [] [] []
def AZ:ab:=⟨[],[],[],[],[]⟩
def mg(a:Bool):St:=ah [(4,xB a)] [] []
def f116l4:ab:=⟨[4],[],[],[],[]⟩
def f116B:Nat->Option ab:=aA [(0,AZ),(1000000,f116l4)]
abbrev su{J:Type}(N n:Nat)(V:St)(l:ab)(K:KT J):Option J:=am II bg f116B N (aZ 99 (bm Tryz.f116) n) .n V (az (some l) K)
def f116t1 N a b (K:KT J):su N 2 (f116s0 a b) IJ K =
 eV.Z1 N a b (λa b=>K .nrm (vC a b)):=by kernel_rfl
def f116t3 N a b (K:KT J):su N 5 (vC a b) IJ K =
 eV.Z3 N a b (λa b=>K .nrm (vC a b)) (λc=>K .ret (mg c)):=by kernel_rfl
def f116t6 N a b (K:KT J):su N 19 (vC a b) IK K =
 eV.Z6 N a b (λa b c d e=>K .nrm (vD a b c d e)):=by kernel_rfl
def f116t9 N a b c d e (K:KT J):su N 75 (vD a b c d e) IK K =
 eV.Z9 N a b c d e (λa b c d e=>K .nrm (vD a b c d e)) (K (.exit 0) sr) (λf=>K .ret (mg f)):=by kernel_rfl
def f116t8L N (K:KT J):=lE K (eV.Z8L N (K (.exit 0) sr) (λa=>K .ret (mg a))) (λb c d e f k=>eV.Z9 N b c d e f k (K (.exit 0) sr) (λa=>K .ret (mg a))) (λF b c d e f=>f116t9 N b c d e f _) (by kernel_rfl)
def f116t8 N a b c d e (K:KT J):=vL (vD a b c d e) (f116t8L N (jK AZ K) N a b c d e) (by kernel_rfl)
def f116t7 N a b c d e (K:KT J):=vB 0 AZ K (eV.Z7 N a b c d e (K .nrm sr) (λf=>K .ret (mg f))) (f116t8 N a b c d e _) (by kernel_rfl)
def f116t5 N a b (K:KT J):=vQ (λk=>eV.Z6 N a b k) (f116t6 N a b _) (cH λa b c d e=>f116t7 N a b c d e K)
def f116t10 N  (K:KT J):su N 15 sr f116lE K =
 eV.Z10 N (λa=>K .ret (mg a)):=by kernel_rfl
def f116t4 N a b (K:KT J):=vQ (λk=>eV.Z5 N a b k (λc=>K .ret (mg c))) (f116t5 N a b _) (f116t10 N K)
def f116t2 N a b (K:KT J):=vQ (λk=>eV.Z3 N a b k (λc=>K .ret (mg c))) (f116t3 N a b _) (eN λa b=>f116t4 N a b K)
def f116t0 N a b (K:KT J):=vQ (λk=>eV.Z1 N a b k) (f116t1 N a b _) (eN λa b=>f116t2 N a b K)
def f116ok(h:eV.Spec):ay Tryz.prog 116 AY :=
 bI Tryz.func116 bu f116GOk (λN X K=>f116t0 N X.1 X.2.1 K) (by kernel_rfl) λX hb hp=>by obtain⟨a,b,_⟩:=X;obtain⟨N,h⟩:=h a b hb.1;exact⟨N,Eq.trans (by kernel_rfl) (h N (Nat.le_refl N))⟩
def e116ok:ay Tryz.prog 116 AY:=f116ok eV.ok
def IL:bc:=⟨[⟨.pair (.int .i64) (.pair (.int .i64) (.sl 3 (.int .i64))),true,false⟩,⟨.sl 3 (.int .i64),false,false⟩],[⟨.pair (.int .i64) (.pair (.int .i64) (.sl 3 (.int .i64))),true,false⟩,⟨.bool,false,false⟩]⟩
def A3:aQ:=⟨IL,none,λX=>((),((bM.g X.1 X.2.1).1,((bM.g X.1 X.2.1).2,())))⟩
def IM:Gm:=aK (aK (aK be 63 mb) 83 l7) 116 AY
def f81GOk:av Tryz.prog IM:=(((av.nil).add pM (by kernel_rfl)).add pH (by kernel_rfl)).add e116ok (by kernel_rfl)
def f81lE:ab:=⟨[],[],[],[],[]⟩
def f81s0(a:MT)(b:LI):St:=bA IL.ps (a,(b,()))
def vE(a:LI)(b d:Int)(e:LI)(f g:Int):St:=ah [(1,.c (.sn 3 tI a none)),(2,xb 2),(4,xb 4)] [(2,(27,[yi b,yi d,.sn 3 tI e none])),(4,(27,[yi f,yi g,.nil]))] []
def IN:ab:=⟨[1,2,4],[2,4],[],[],[]⟩
def zIO(a b:LI)(d e:Int)(f:LI)(g h i j:Int):St:=ah [(1,.c (.sn 3 tI b none)),(2,xb 2),(4,xb 4),(6,xb 6)] [(2,(27,[yi d,yi e,.sn 3 tI f none])),(4,(27,[yi g,yi h,.nil])),(6,(27,[yi i,yi j,.own 20000386]))] [(20000386,(⟨3,.int .i64,a,true,false⟩:ae))]
def f81l2:ab:=⟨[1,2,4,6],[2,4,6],[],[],[(⟨true,6,2⟩,20000386)]⟩
def jl(a b:LI)(d e f:Int)(g:LI)(h i j l:Int):St:=ah [(1,.c (.sn 3 tI b none)),(2,xb 2),(4,xb 4),(6,xb 6),(7,xi d)] [(2,(27,[yi e,yi f,.sn 3 tI g none])),(4,(27,[yi h,yi i,.nil])),(6,(27,[yi j,yi l,.own 20000386]))] [(20000386,(⟨3,.int .i64,a,true,false⟩:ae))]
def mh:ab:=⟨[1,2,4,6,7],[2,4,6],[],[],[(⟨true,6,2⟩,20000386)]⟩
def vF(a b:LI)(d e f g:Int)(h:LI)(i j l m:Int):St:=ah [(1,.c (.sn 3 tI b none)),(2,xb 2),(4,xb 4),(6,xb 6),(7,xi d),(8,xi e)] [(2,(27,[yi f,yi g,.sn 3 tI h none])),(4,(27,[yi i,yi j,.nil])),(6,(27,[yi l,yi m,.own 20000386]))] [(20000386,(⟨3,.int .i64,a,true,false⟩:ae))]
def IP:ab:=⟨[1,2,4,6,7,8],[2,4,6],[],[],[(⟨true,6,2⟩,20000386)]⟩
def vG(a b:LI)(d e f g h:Int)(i:LI)(j l m o:Int):St:=ah [(1,.c (.sn 3 tI b none)),(2,xb 2),(4,xb 4),(6,xb 6),(7,xi d),(8,xi e),(9,xi f)] [(2,(27,[yi g,yi h,.sn 3 tI i none])),(4,(27,[yi j,yi l,.nil])),(6,(27,[yi m,yi o,.own 20000386]))] [(20000386,(⟨3,.int .i64,a,true,false⟩:ae))]
def IQ:ab:=⟨[1,2,4,6,7,8,9],[2,4,6],[],[],[(⟨true,6,2⟩,20000386)]⟩
def pU(a:LI)(b c d e:Int):St:=ah [(4,xb 4),(6,xb 6)] [(4,(27,[yi b,yi c,.nil])),(6,(27,[yi d,yi e,.own 20000386]))] [(20000386,(⟨3,.int .i64,a,true,false⟩:ae))]
def A4:ab:=⟨[4,6],[4,6],[],[],[(⟨true,6,2⟩,20000386)]⟩
def A5(a:LI)(b:Bool)(c d:Int):St:=ah [(4,xb 4),(5,xB b)] [(4,(27,[yi c,yi d,.own 20000258]))] [(20000258,(⟨3,.int .i64,a,true,false⟩:ae))]
def f81l7:ab:=⟨[4,5],[4],[⟨⟨true,4,2⟩,30000000,3,.int .i64,true⟩],[],[(⟨true,4,2⟩,20000258)]⟩
def f81B:Nat->Option ab:=aA [(2,mh),(1,mh),(0,A4),(1000000,f81l7)]
abbrev jO{J:Type}(N n:Nat)(V:St)(l:ab)(K:KT J):Option J:=am IM bg f81B N (aZ 99 (bm Tryz.f81) n) .n V (az (some l) K)
def f81t1 N b a (K:KT J):jO N 2 (f81s0 b a) IN K =
 bM.Z1 N b a (λa c d e f g=>K .nrm (vE a c d e f g)):=by kernel_rfl
def f81t3 N c d e f a b (K:KT J):jO N 5 (vE c d e f a b) IN K =
 bM.Z3 N c d e f a b (λc d e f a b=>K .nrm (vE c d e f a b)) (λg h a b=>K .ret (A5 g h a b)):=by kernel_rfl
def f81t5 N a b c d e f (K:KT J):jO N 11 (vE a b c d e f) f81l2 K =
 bM.Z5 N a b c d e f (λg a b c d e f h i=>K .nrm (zIO g a b c d e f h i)):=by kernel_rfl
def f81t8 N a b c d e f g h i (K:KT J):jO N 39 (zIO a b c d e f g h i) mh K =
 bM.Z8 N a b c d e f g h i (λa b j c d e f g h i=>K .nrm (jl a b j c d e f g h i)):=by kernel_rfl
def f81t12 N a f g h i j b c d e (K:KT J):jO N 279 (jl a f g h i j b c d e) mh K =
 bM.Z12 N a f g h i j b c d e (λa f g h i j b c d e=>K .nrm (jl a f g h i j b c d e)) (λa b c d e=>K (.exit 0) (pU a b c d e)):=by kernel_rfl
def f81t16 N a b c d e f g h i j (K:KT J):jO N 2199 (jl a b c d e f g h i j) IP K =
 bM.Z16 N a b c d e f g h i j (λa b c l d e f g h i j=>K .nrm (vF a b c l d e f g h i j)):=by kernel_rfl
def f81t18 N a b c d e f g h i j l (K:KT J):jO N 5271 (vF a b c d e f g h i j l) IP K =
 bM.Z18 N a b c d e f g h i j l (λa b c d e f g h i j l=>K .nrm (vF a b c d e f g h i j l)):=by kernel_rfl
def f81t20 N a b c d e f g h i j l (K:KT J):jO N 11415 (vF a b c d e f g h i j l) IQ K =
 bM.Z20 N a b c d e f g h i j l (λa b c d m e f g h i j l=>K .nrm (vG a b c d m e f g h i j l)):=by kernel_rfl
def f81t23 N a b c l m d e f g h i j (K:KT J):jO N 40087 (vG a b c l m d e f g h i j) IQ K =
 bM.Z23 N a b c l m d e f g h i j (λa b c l m d e f g h i j=>K .nrm (vG a b c l m d e f g h i j)) (λa b c d e f g h i j=>K (.exit 2) (jl a b c d e f g h i j)):=by kernel_rfl
def f81t22L N (K:KT J):=ra K (bM.Z22L N (λa b c d e f g h i j=>K (.exit 2) (jl a b c d e f g h i j))) (λa b c l m d e f g h i j k=>bM.Z23 N a b c l m d e f g h i j k (λa b c d e f g h i j=>K (.exit 2) (jl a b c d e f g h i j))) (λF a b c l m d e f g h i j=>f81t23 N a b c l m d e f g h i j _) (by kernel_rfl)
def f81t22 N a b c d e f g h i j l m (K:KT J):=vL (vG a b c d e f g h i j l m) (f81t22L N (jK mh K) N a b c d e f g h i j l m) (by kernel_rfl)
def f81t21 N a b c l m d e f g h i j (K:KT J):=vB 2 mh K (bM.Z21 N a b c l m d e f g h i j (λa b c d e f g h i j=>K .nrm (jl a b c d e f g h i j))) (f81t22 N a b c l m d e f g h i j _) (by kernel_rfl)
def f81t19 N a b c d e f g h i j l (K:KT J):=vQ (λk=>bM.Z20 N a b c d e f g h i j l k) (f81t20 N a b c d e f g h i j l _) (oI λa b c d m e f g h i j l=>f81t21 N a b c d m e f g h i j l K)
def f81t17 N a b c d e f g h i j l (K:KT J):=vQ (λk=>bM.Z18 N a b c d e f g h i j l k) (f81t18 N a b c d e f g h i j l _) (gD λa b c d e f g h i j l=>f81t19 N a b c d e f g h i j l K)
def f81t15 N a b c d e f g h i j (K:KT J):=vQ (λk=>bM.Z16 N a b c d e f g h i j k) (f81t16 N a b c d e f g h i j _) (gD λa b c l d e f g h i j=>f81t17 N a b c l d e f g h i j K)
def f81t14 N a b c d e f g h i j (K:KT J):=vB 1 mh K (bM.Z14 N a b c d e f g h i j (λa b c d e f g h i j=>K .nrm (jl a b c d e f g h i j))) (f81t15 N a b c d e f g h i j _) (by kernel_rfl)
def f81t24 N a b c d e f g h i j (K:KT J):jO N 919 (jl a b c d e f g h i j) mh K =
 bM.Z24 N a b c d e f g h i j (λa b c d e f g h i j=>K .nrm (jl a b c d e f g h i j)):=by kernel_rfl
def f81t13 N a b c d e f g h i j (K:KT J):=vQ (λk=>bM.Z14 N a b c d e f g h i j k) (f81t14 N a b c d e f g h i j _) (dz λa b c d e f g h i j=>f81t24 N a b c d e f g h i j K)
def f81t11 N a f g h i j b c d e (K:KT J):=vQ (λk=>bM.Z12 N a f g h i j b c d e k (λa b c d e=>K (.exit 0) (pU a b c d e))) (f81t12 N a f g h i j b c d e _) (dz λa f g h i j b c d e=>f81t13 N a f g h i j b c d e K)
def f81t10L N (K:KT J):=kH K (bM.Z10L N (λa b c d e=>K (.exit 0) (pU a b c d e))) (λa f g h i j b c d e k=>bM.Z11 N a f g h i j b c d e k (λa b c d e=>K (.exit 0) (pU a b c d e))) (λF a f g h i j b c d e=>f81t11 N a f g h i j b c d e _) (by kernel_rfl)
def f81t10 N a b c d e f g h i j (K:KT J):=vL (jl a b c d e f g h i j) (f81t10L N (jK A4 K) N a b c d e f g h i j) (by kernel_rfl)
def f81t9 N a f g h i j b c d e (K:KT J):=vB 0 A4 K (bM.Z9 N a f g h i j b c d e (λa b c d e=>K .nrm (pU a b c d e))) (f81t10 N a f g h i j b c d e _) (by kernel_rfl)
def f81t7 N a b c d e f g h i (K:KT J):=vQ (λk=>bM.Z8 N a b c d e f g h i k) (f81t8 N a b c d e f g h i _) (dz λa b j c d e f g h i=>f81t9 N a b j c d e f g h i K)
def f81t25 N c a b d e (K:KT J):jO N 31 (pU c a b d e) f81lE K =
 bM.Z25 N c a b d e (λf g a b=>K .ret (A5 f g a b)):=by kernel_rfl
def f81t6 N a f g h i b c d e (K:KT J):=vQ (λk=>bM.Z7 N a f g h i b c d e k) (f81t7 N a f g h i b c d e _) (cH λa b c d e=>f81t25 N a b c d e K)
def f81t4 N a b c d e f (K:KT J):=vQ (λk=>bM.Z5 N a b c d e f k) (f81t5 N a b c d e f _) (ee λg a b c d e f h i=>f81t6 N g a b c d e f h i K)
def f81t2 N c d e f a b (K:KT J):=vQ (λk=>bM.Z3 N c d e f a b k (λg h a b=>K .ret (A5 g h a b))) (f81t3 N c d e f a b _) (cN λc d e f a b=>f81t4 N c d e f a b K)
def f81t0 N b a (K:KT J):=vQ (λk=>bM.Z1 N b a k) (f81t1 N b a _) (cN λa c d e f g=>f81t2 N a c d e f g K)
def f81ok(h:bM.Spec):ay Tryz.prog 81 A3 :=
 bI Tryz.func81 bu f81GOk (λN X K=>f81t0 N X.1 X.2.1 K) (by kernel_rfl) λX hb hp=>by obtain⟨a,b,_⟩:=X;obtain⟨N,h⟩:=h a b hb.1 hb.2.1;exact⟨N,Eq.trans (by kernel_rfl) (h N (Nat.le_refl N))⟩
def e81ok:ay Tryz.prog 81 A3:=f81ok bM.ok
end Go.Fw
namespace Go.Fw
variable {J : Type}
open Go.Proofs
variable [DC]
def IR:bc:=⟨[⟨.int .i64,false,false⟩],[⟨.bool,false,false⟩]⟩
def A6:aQ:=⟨IR,none,λX=>((),((jT.g X.1),()))⟩
def IS:Gm:=be
def f132GOk:av Tryz.prog IS:=av.nil
def f132lE:ab:=⟨[],[],[],[],[]⟩
def f132s0(a:Int):St:=bA IR.ps (a,())
def f132s1(a:Bool):St:=ah [(2,xB a)] [] []
def f132l1:ab:=⟨[2],[],[],[],[]⟩
def f132B:Nat->Option ab:=aA [(1000000,f132l1)]
abbrev f132j{J:Type}(N n:Nat)(V:St)(l:ab)(K:KT J):Option J:=am IS bg f132B N (aZ 99 (bm Tryz.f132) n) .n V (az (some l) K)
def f132t0 N a (K:KT J):f132j N 1 (f132s0 a) f132lE K =
 jT.Z0 N a (λb=>K .ret (f132s1 b)):=by kernel_rfl
def f132ok(h:jT.Spec):ay Tryz.prog 132 A6 :=
 bI Tryz.func132 bu f132GOk (λN X K=>f132t0 N X.1 K) (by kernel_rfl) λX hb hp=>by obtain⟨a,_⟩:=X;obtain⟨N,h⟩:=h a;exact⟨N,Eq.trans (by kernel_rfl) (h N (Nat.le_refl N))⟩
def e132ok:ay Tryz.prog 132 A6:=f132ok jT.ok
def IT:bc:=⟨[⟨.int .i64,false,false⟩,⟨.int .i64,false,false⟩],[⟨.int .i64,false,false⟩]⟩
def A7:aQ:=⟨IT,none,λX=>((),((jt.g X.1 X.2.1),()))⟩
def IU:Gm:=aK be 132 A6
def f95GOk:av Tryz.prog IU:=(av.nil).add e132ok (by kernel_rfl)
def f95lE:ab:=⟨[],[],[],[],[]⟩
def f95s0(a b:Int):St:=bA IT.ps (a,(b,()))
def f95s1(a:Int):St:=ah [(4,xi a)] [] []
def f95l1:ab:=⟨[4],[],[],[],[]⟩
def f95B:Nat->Option ab:=aA [(1000000,f95l1)]
abbrev f95j{J:Type}(N n:Nat)(V:St)(l:ab)(K:KT J):Option J:=am IU bg f95B N (aZ 99 (bm Tryz.f95) n) .n V (az (some l) K)
def f95t0 N a b (K:KT J):f95j N 1 (f95s0 a b) f95lE K =
 jt.Z0 N a b (λc=>K .ret (f95s1 c)):=by kernel_rfl
def f95ok(h:jt.Spec):ay Tryz.prog 95 A7 :=
 bI Tryz.func95 bu f95GOk (λN X K=>f95t0 N X.1 X.2.1 K) (by kernel_rfl) λX hb hp=>by obtain⟨a,b,_⟩:=X;obtain⟨N,h⟩:=h a b;exact⟨N,Eq.trans (by kernel_rfl) (h N (Nat.le_refl N))⟩
def e95ok:ay Tryz.prog 95 A7:=f95ok jt.ok
def IV:bc:=⟨[⟨.sl 3 (.int .i64),false,false⟩,⟨.sl 3 (.int .i64),false,false⟩],[⟨.int .i64,false,false⟩]⟩
def vH:aQ:=⟨IV,none,λX=>((),((eW.g X.1 X.2.1),()))⟩
def IW:Gm:=aK be 95 A7
def f51GOk:av Tryz.prog IW:=(av.nil).add e95ok (by kernel_rfl)
def f51lE:ab:=⟨[],[],[],[],[]⟩
def f51s0(a b:LI):St:=bA IV.ps (a,(b,()))
def nO(a b:LI):St:=ah [(0,.c (.sn 3 tI a none)),(1,.c (.sn 3 tI b none))] [] []
def vJ:ab:=⟨[0,1],[],[],[],[]⟩
def vK(a b d:LI)(e f:Int):St:=ah [(0,.c (.sn 3 tI a none)),(1,.c (.sn 3 tI b none)),(9,.c (.sn 3 tI d none)),(10,xi e),(11,xi f)] [] []
def IX:ab:=⟨[0,1,9,10,11],[],[],[],[]⟩
def pV(a:Int):St:=ah [(4,xi a)] [] []
def f51l3:ab:=⟨[4],[],[],[],[]⟩
def f51B:Nat->Option ab:=aA [(0,vJ),(1000000,f51l3)]
abbrev vM{J:Type}(N n:Nat)(V:St)(l:ab)(K:KT J):Option J:=am IW bg f51B N (aZ 99 (bm Tryz.f51) n) .n V (az (some l) K)
def f51t1 N a b (K:KT J):vM N 2 (f51s0 a b) vJ K =
 eW.Z1 N a b (λa b=>K .nrm (nO a b)):=by kernel_rfl
def f51t4 N a b (K:KT J):vM N 9 (nO a b) IX K =
 eW.Z4 N a b (λa b c d e=>K .nrm (vK a b c d e)):=by kernel_rfl
def f51t7 N a b c d e (K:KT J):vM N 37 (vK a b c d e) IX K =
 eW.Z7 N a b c d e (λa b c d e=>K .nrm (vK a b c d e)) (λa b=>K (.exit 0) (nO a b)) (λf=>K .ret (pV f)):=by kernel_rfl
def f51t6L N (K:KT J):=lE K (eW.Z6L N (λa b=>K (.exit 0) (nO a b)) (λc=>K .ret (pV c))) (λa b d e f k=>eW.Z7 N a b d e f k (λa b=>K (.exit 0) (nO a b)) (λc=>K .ret (pV c))) (λF a b d e f=>f51t7 N a b d e f _) (by kernel_rfl)
def f51t6 N a b c d e (K:KT J):=vL (vK a b c d e) (f51t6L N (jK vJ K) N a b c d e) (by kernel_rfl)
def f51t5 N a b c d e (K:KT J):=vB 0 vJ K (eW.Z5 N a b c d e (λa b=>K .nrm (nO a b)) (λf=>K .ret (pV f))) (f51t6 N a b c d e _) (by kernel_rfl)
def f51t3 N a b (K:KT J):=vQ (λk=>eW.Z4 N a b k) (f51t4 N a b _) (cH λa b c d e=>f51t5 N a b c d e K)
def f51t8 N a b (K:KT J):vM N 7 (nO a b) f51lE K =
 eW.Z8 N a b (λc=>K .ret (pV c)):=by kernel_rfl
def f51t2 N a b (K:KT J):=vQ (λk=>eW.Z3 N a b k (λc=>K .ret (pV c))) (f51t3 N a b _) (eN λa b=>f51t8 N a b K)
def f51t0 N a b (K:KT J):=vQ (λk=>eW.Z1 N a b k) (f51t1 N a b _) (eN λa b=>f51t2 N a b K)
def f51ok(h:eW.Spec):ay Tryz.prog 51 vH :=
 bI Tryz.func51 bu f51GOk (λN X K=>f51t0 N X.1 X.2.1 K) (by kernel_rfl) λX hb hp=>by obtain⟨a,b,_⟩:=X;obtain⟨N,h⟩:=h a b hb.1 hb.2.1;exact⟨N,Eq.trans (by kernel_rfl) (h N (Nat.le_refl N))⟩
def IY:ay Tryz.prog 51 vH:=f51ok eW.ok
end Go.Fw
namespace Go.Fw
variable {J : Type}
open Go.Proofs
def IZ:bc:=⟨[⟨.pair (.int .i64) (.pair (.int .i64) (.sl 3 (.int .i64))),true,false⟩],[⟨.pair (.int .i64) (.pair (.int .i64) (.sl 3 (.int .i64))),true,false⟩,⟨.bool,false,false⟩]⟩
def A8:aQ:=⟨IZ,none,λX=>((),((cF.g X.1).1,((cF.g X.1).2,())))⟩
def I0:Gm:=aK (aK (aK (aK be 51 vH) 63 mb) 80 AS) 81 A3
def f34GOk:av Tryz.prog I0:=((((av.nil).add IY (by kernel_rfl)).add pM (by kernel_rfl)).add e80ok (by kernel_rfl)).add e81ok (by kernel_rfl)
def f34lE:ab:=⟨[],[],[],[],[]⟩
def f34s0(a:MT):St:=bA IZ.ps (a,())
def vN(a b:Int)(c:LI)(d e:Int):St:=ah [(1,xb 1),(2,xb 2)] [(1,(27,[yi a,yi b,.sn 3 tI c none])),(2,(27,[yi d,yi e,.nil]))] []
def I1:ab:=⟨[1,2],[1,2],[],[],[]⟩
def I9(a b:Int)(c:LI)(d e f g:Int)(h:LI):St:=ah [(1,xb 1),(2,xb 2),(4,xb 4)] [(1,(27,[yi a,yi b,.sn 3 tI c none])),(2,(27,[yi d,yi e,.nil])),(4,(27,[yi f,yi g,.sn 3 tI h none]))] []
def f34l2:ab:=⟨[1,2,4],[1,2,4],[],[],[]⟩
def A9(a:LL)(b c d e:Int)(f:LI)(g h i j:Int)(l:LI):St:=ah [(1,xb 1),(2,xb 2),(4,xb 4),(23,xo 1001472),(24,xi b),(25,xi c)] [(1,(27,[yi d,yi e,.sn 3 tI f none])),(2,(27,[yi g,yi h,.nil])),(4,(27,[yi i,yi j,.sn 3 tI l none]))] [(1001472,(⟨22,.sl 3 tI,a,true,false⟩:ae))]
def Ja:ab:=⟨[1,2,4,23,24,25],[1,2,4],[],[],[(⟨false,23,0⟩,1001472)]⟩
def Ba(a:LL)(b:LI)(c d e f:Int)(g:LI)(h i j l:Int):St:=ah [(1,xb 1),(2,xb 2),(4,xb 4),(23,xo 1001472),(24,xi c),(25,xi d)] [(1,(27,[yi e,yi f,.sn 3 tI g none])),(2,(27,[yi h,yi i,.nil])),(4,(27,[yi j,yi l,.own 20000258]))] [(1001472,(⟨22,.sl 3 tI,a,true,false⟩:ae)),(20000258,(⟨3,.int .i64,b,true,false⟩:ae))]
def Jb:ab:=⟨[1,2,4,23,24,25],[1,2,4],[],[],[(⟨false,23,0⟩,1001472),(⟨true,4,2⟩,20000258)]⟩
def nP(a:LI)(b c d e:Int):St:=ah [(2,xb 2),(4,xb 4)] [(2,(27,[yi b,yi c,.nil])),(4,(27,[yi d,yi e,.own 20000258]))] [(20000258,(⟨3,.int .i64,a,true,false⟩:ae))]
def Bb:ab:=⟨[2,4],[2,4],[],[],[(⟨true,4,2⟩,20000258)]⟩
def Bc(a:LI)(b:Bool)(c d:Int):St:=ah [(2,xb 2),(3,xB b)] [(2,(27,[yi c,yi d,.own 20000130]))] [(20000130,(⟨3,.int .i64,a,true,false⟩:ae))]
def f34l6:ab:=⟨[2,3],[2],[⟨⟨true,2,2⟩,30000000,3,.int .i64,true⟩],[],[(⟨true,2,2⟩,20000130)]⟩
def f34B:Nat->Option ab:=aA [(0,Bb),(1000000,f34l6)]
abbrev nQ{J:Type}(N n:Nat)(V:St)(l:ab)(K:KT J):Option J:=am I0 bg f34B N (aZ 99 (bm Tryz.f34) n) .n V (az (some l) K)
def f34t1 N a (K:KT J):nQ N 2 (f34s0 a) I1 K =
 cF.Z1 N a (λb c d e f=>K .nrm (vN b c d e f)):=by kernel_rfl
def f34t3 N c d e a b (K:KT J):nQ N 5 (vN c d e a b) I1 K =
 cF.Z3 N c d e a b (λc d e a b=>K .nrm (vN c d e a b)) (λf g a b=>K .ret (Bc f g a b)):=by kernel_rfl
def f34t5 N a b c d e (K:KT J):nQ N 11 (vN a b c d e) f34l2 K =
 cF.Z5 N a b c d e (λa b c d e f g h=>K .nrm (I9 a b c d e f g h)):=by kernel_rfl
def f34t8 N a b c d e f g h (K:KT J):nQ N 39 (I9 a b c d e f g h) Ja K =
 cF.Z8 N a b c d e f g h (λi j l a b c d e f g h=>K .nrm (A9 i j l a b c d e f g h)):=by kernel_rfl
def f34t11 N f a g h i j l b c d e (K:KT J):nQ N 151 (Ba f a g h i j l b c d e) Jb K =
 cF.Z11 N f a g h i j l b c d e (λf a g h i j l b c d e=>K .nrm (Ba f a g h i j l b c d e)) (λa b c d e=>K (.exit 0) (nP a b c d e)):=by kernel_rfl
def f34t12 N f g h i j l a b c d e (K:KT J):nQ N 151 (A9 f g h i j l a b c d e) Jb K =
 cF.Z12 N f g h i j l a b c d e (λf e g h i j l a b c d=>K .nrm (Ba f e g h i j l a b c d)) (λe a b c d=>K (.exit 0) (nP e a b c d)):=by kernel_rfl
def f34t10L N (K:KT J):=q9 K (cF.Z10L N (λa b c d e=>K (.exit 0) (nP a b c d e))) (λf a g h i j l b c d e k=>cF.Z11 N f a g h i j l b c d e k (λa b c d e=>K (.exit 0) (nP a b c d e))) (λF f a g h i j l b c d e=>f34t11 N f a g h i j l b c d e _) (by kernel_rfl)
def f34t10 N f g h i j l a b c d e (K:KT J):=vP (A9 f g h i j l a b c d e) Ja (λk=>cF.Z12 N f g h i j l a b c d e k (λe a b c d=>K (.exit 0) (nP e a b c d))) (f34t12 N f g h i j l a b c d e _) (gD λf e g h i j l a b c d=>f34t10L N (jK Bb K) N f e g h i j l a b c d) (by kernel_rfl)
def f34t9 N f g h i j l a b c d e (K:KT J):=vB 0 Bb K (cF.Z9 N f g h i j l a b c d e (λe a b c d=>K .nrm (nP e a b c d))) (f34t10 N f g h i j l a b c d e _) (by kernel_rfl)
def f34t7 N a b c d e f g h (K:KT J):=vQ (λk=>cF.Z8 N a b c d e f g h k) (f34t8 N a b c d e f g h _) (gD λi j l a b c d e f g h=>f34t9 N i j l a b c d e f g h K)
def f34t13 N c a b d e (K:KT J):nQ N 31 (nP c a b d e) f34lE K =
 cF.Z13 N c a b d e (λf g a b=>K .ret (Bc f g a b)):=by kernel_rfl
def f34t6 N f g h a b c d e (K:KT J):=vQ (λk=>cF.Z7 N f g h a b c d e k) (f34t7 N f g h a b c d e _) (cH λe a b c d=>f34t13 N e a b c d K)
def f34t4 N a b c d e (K:KT J):=vQ (λk=>cF.Z5 N a b c d e k) (f34t5 N a b c d e _) (dy λa b c d e f g h=>f34t6 N a b c d e f g h K)
def f34t2 N c d e a b (K:KT J):=vQ (λk=>cF.Z3 N c d e a b k (λf g a b=>K .ret (Bc f g a b))) (f34t3 N c d e a b _) (cH λc d e a b=>f34t4 N c d e a b K)
def f34t0 N a (K:KT J):=vQ (λk=>cF.Z1 N a k) (f34t1 N a _) (cH λb c d e f=>f34t2 N b c d e f K)
def f34ok(h:cF.Spec):ay Tryz.prog 34 A8 :=
 bI Tryz.func34 bu f34GOk (λN X K=>f34t0 N X.1 K) (by kernel_rfl) λX hb hp=>by obtain⟨a,_⟩:=X;obtain⟨N,h⟩:=h a hb.1;exact⟨N,Eq.trans (by kernel_rfl) (h N (Nat.le_refl N))⟩
def e34ok:ay Tryz.prog 34 A8:=f34ok cF.ok
def f121sig:bc:=⟨[⟨.int .i64,false,false⟩],[⟨.str,false,false⟩]⟩
def Bd:aQ:=⟨f121sig,(some λX=>strconv_Itoa.P X.1),λX=>((),((strconv_Itoa.g X.1),()))⟩
def z00:Go.Shelf.Ren:=⟨λ|171=>121|243=>159|246=>183|283=>195|284=>196|285=>197|286=>198|129=>131|317=>203|318=>204|319=>205|320=>206|337=>207|338=>208|n=>n,λ|3=>3|9=>9|2=>2|4=>4|171=>184|0=>0|53=>132|37=>37|5=>5|173=>186|212=>199|51=>130|20=>20|213=>200|46=>96|232=>201|233=>202|n=>n,λ|17=>5|18=>6|19=>7|n=>n⟩
def f121lay:LaysM.n171 Tryz.prog z00:={ mixed:=(by kernel_rfl),f129:=Tryz.func131.trans (congrArg some (by kernel_rfl)),f171:=Tryz.func121.trans (congrArg some (by kernel_rfl)),f243:=Tryz.func159.trans (congrArg some (by kernel_rfl)),f246:=Tryz.func183.trans (congrArg some (by kernel_rfl)),f283:=Tryz.func195.trans (congrArg some (by kernel_rfl)),f284:=Tryz.func196.trans (congrArg some (by kernel_rfl)),f285:=Tryz.func197.trans (congrArg some (by kernel_rfl)),f286:=Tryz.func198.trans (congrArg some (by kernel_rfl)),f317:=Tryz.func203.trans (congrArg some (by kernel_rfl)),f318:=Tryz.func204.trans (congrArg some (by kernel_rfl)),f319:=Tryz.func205.trans (congrArg some (by kernel_rfl)),f320:=Tryz.func206.trans (congrArg some (by kernel_rfl)),f337:=Tryz.func207.trans (congrArg some (by kernel_rfl)),f338:=Tryz.func208.trans (congrArg some (by kernel_rfl)),t0:=Tryz.underlying0,a0:=Tryz.isAgg0,z0:=Tryz.sizeOf0,v0:=Tryz.zeroValue0,t2:=Tryz.underlying2,a2:=Tryz.isAgg2,z2:=Tryz.sizeOf2,v2:=Tryz.zeroValue2,t3:=Tryz.underlying3,a3:=Tryz.isAgg3,z3:=Tryz.sizeOf3,v3:=Tryz.zeroValue3,t4:=Tryz.underlying4,a4:=Tryz.isAgg4,z4:=Tryz.sizeOf4,v4:=Tryz.zeroValue4,t5:=Tryz.underlying5,a5:=Tryz.isAgg5,z5:=Tryz.sizeOf5,v5:=Tryz.zeroValue5,t9:=Tryz.underlying9,a9:=Tryz.isAgg9,z9:=Tryz.sizeOf9,v9:=Tryz.zeroValue9,t20:=Tryz.underlying20,a20:=Tryz.isAgg20,z20:=Tryz.sizeOf20,v20:=Tryz.zeroValue20,t37:=Tryz.underlying37,a37:=Tryz.isAgg37,z37:=Tryz.sizeOf37,v37:=Tryz.zeroValue37,t46:=Tryz.underlying96,a46:=Tryz.isAgg96,z46:=Tryz.sizeOf96,v46:=Tryz.zeroValue96,t51:=Tryz.underlying130,a51:=Tryz.isAgg130,z51:=Tryz.sizeOf130,v51:=Tryz.zeroValue130,t53:=Tryz.underlying132,a53:=Tryz.isAgg132,z53:=Tryz.sizeOf132,v53:=Tryz.zeroValue132,t171:=Tryz.underlying184,a171:=Tryz.isAgg184,z171:=Tryz.sizeOf184,v171:=Tryz.zeroValue184,t173:=Tryz.underlying186,a173:=Tryz.isAgg186,z173:=Tryz.sizeOf186,v173:=Tryz.zeroValue186,t212:=Tryz.underlying199,a212:=Tryz.isAgg199,z212:=Tryz.sizeOf199,v212:=Tryz.zeroValue199,t213:=Tryz.underlying200,a213:=Tryz.isAgg200,z213:=Tryz.sizeOf200,t232:=Tryz.underlying201,a232:=Tryz.isAgg201,z232:=Tryz.sizeOf201,v232:=Tryz.zeroValue201,t233:=Tryz.underlying202,a233:=Tryz.isAgg202,z233:=Tryz.sizeOf202,v233:=Tryz.zeroValue202,g17:=(by kernel_rfl),g18:=(by kernel_rfl),g19:=(by kernel_rfl),i0:=(by kernel_rfl),i2:=(by kernel_rfl),i3:=(by kernel_rfl),i4:=(by kernel_rfl),i5:=(by kernel_rfl),i9:=(by kernel_rfl),i20:=(by kernel_rfl),i37:=(by kernel_rfl),i46:=(by kernel_rfl),i51:=(by kernel_rfl),i53:=(by kernel_rfl),i171:=(by kernel_rfl),i173:=(by kernel_rfl),i212:=(by kernel_rfl),i232:=(by kernel_rfl),i233:=(by kernel_rfl),m17:=(by kernel_rfl),m18:=(by kernel_rfl),m19:=(by kernel_rfl) }
def f121ok(_:True):ay Tryz.prog 121 Bd:=M6 PN f121lay
def e121ok:ay Tryz.prog 121 Bd:=f121ok strconv_Itoa.ok
def Jc:bc:=⟨[⟨.int .i64,false,false⟩],[⟨.str,false,false⟩]⟩
def vO:aQ:=⟨Jc,(some λX=>eo.P X.1),λX=>((),((eo.g X.1),()))⟩
def Je:Gm:=aK be 121 Bd
def f90GOk:av Tryz.prog Je:=(av.nil).add e121ok (by kernel_rfl)
def f90lE:ab:=⟨[],[],[],[],[]⟩
def f90s0(a:Int):St:=bA Jc.ps (a,())
def f90s1(a:ByteArray):St:=ah [(2,.c (.str a))] [] []
def f90l1:ab:=⟨[2],[],[],[],[]⟩
def f90B:Nat->Option ab:=aA [(1000000,f90l1)]
abbrev f90j{J:Type}(N n:Nat)(V:St)(l:ab)(K:KT J):Option J:=am Je bg f90B N (aZ 99 (bm Tryz.f90) n) .n V (az (some l) K)
def f90t0 N a (K:KT J):f90j N 1 (f90s0 a) f90lE K =
 eo.Z0 N a (λb=>K .ret (f90s1 b)):=by kernel_rfl
def f90ok(h:eo.Spec):ay Tryz.prog 90 vO :=
 bI Tryz.func90 bu f90GOk (λN X K=>f90t0 N X.1 K) (by kernel_rfl) λX hb hp=>by obtain⟨a,_⟩:=X;obtain⟨N,h⟩:=h a hp;exact⟨N,Eq.trans (by kernel_rfl) (h N (Nat.le_refl N))⟩
def Jf:ay Tryz.prog 90 vO:=f90ok eo.ok
def f79sig:bc:=⟨[⟨.sl 9 (.str),false,false⟩,⟨.str,false,false⟩],[⟨.str,false,false⟩]⟩
def vR:aQ:=⟨f79sig,(some λX=>strings_Join.P X.1 X.2.1),λX=>((),((strings_Join.g X.1 X.2.1),()))⟩
def Jg:Go.Shelf.Ren:=⟨λ|156=>79|165=>112|166=>113|169=>114|240=>153|241=>154|276=>179|277=>180|n=>n,λ|31=>70|9=>9|3=>3|4=>4|0=>0|20=>20|72=>114|76=>104|70=>112|37=>37|75=>103|127=>147|164=>169|5=>5|80=>116|n=>n,λn=>n⟩
def f79lay:Lays.n156 Tryz.prog Jg:={ mixed:=(by kernel_rfl),f156:=Tryz.func79.trans (congrArg some (by kernel_rfl)),f165:=Tryz.func112.trans (congrArg some (by kernel_rfl)),f166:=Tryz.func113.trans (congrArg some (by kernel_rfl)),f169:=Tryz.func114.trans (congrArg some (by kernel_rfl)),f240:=Tryz.func153.trans (congrArg some (by kernel_rfl)),f241:=Tryz.func154.trans (congrArg some (by kernel_rfl)),f276:=Tryz.func179.trans (congrArg some (by kernel_rfl)),f277:=Tryz.func180.trans (congrArg some (by kernel_rfl)),t0:=Tryz.underlying0,a0:=Tryz.isAgg0,z0:=Tryz.sizeOf0,v0:=Tryz.zeroValue0,t3:=Tryz.underlying3,a3:=Tryz.isAgg3,z3:=Tryz.sizeOf3,v3:=Tryz.zeroValue3,t4:=Tryz.underlying4,a4:=Tryz.isAgg4,z4:=Tryz.sizeOf4,v4:=Tryz.zeroValue4,t9:=Tryz.underlying9,a9:=Tryz.isAgg9,z9:=Tryz.sizeOf9,v9:=Tryz.zeroValue9,t20:=Tryz.underlying20,a20:=Tryz.isAgg20,z20:=Tryz.sizeOf20,v20:=Tryz.zeroValue20,t31:=Tryz.underlying70,a31:=Tryz.isAgg70,z31:=Tryz.sizeOf70,v31:=Tryz.zeroValue70,t37:=Tryz.underlying37,a37:=Tryz.isAgg37,z37:=Tryz.sizeOf37,v37:=Tryz.zeroValue37,t70:=Tryz.underlying112,a70:=Tryz.isAgg112,z70:=Tryz.sizeOf112,v70:=Tryz.zeroValue112,t72:=Tryz.underlying114,a72:=Tryz.isAgg114,z72:=Tryz.sizeOf114,v72:=Tryz.zeroValue114,t75:=Tryz.underlying103,a75:=Tryz.isAgg103,z75:=Tryz.sizeOf103,v75:=Tryz.zeroValue103,t76:=Tryz.underlying104,a76:=Tryz.isAgg104,z76:=Tryz.sizeOf104,v76:=Tryz.zeroValue104,t127:=Tryz.underlying147,a127:=Tryz.isAgg147,z127:=Tryz.sizeOf147,v127:=Tryz.zeroValue147,t164:=Tryz.underlying169,a164:=Tryz.isAgg169,z164:=Tryz.sizeOf169,v164:=Tryz.zeroValue169 }
def f79layX:Builder.Extra Tryz.prog Jg:={ sizeBuilder:=(by kernel_rfl),liesBuilder:=(by kernel_rfl),t5:=Tryz.underlying5,a5:=Tryz.isAgg5,z5:=Tryz.sizeOf5,v5:=Tryz.zeroValue5,infoByte:=(by kernel_rfl),cellsByte:=(by kernel_rfl),sizeByte:=(by kernel_rfl),neB5:=(by decide) }
def f79ok(_:True):ay Tryz.prog 79 vR:=M8 f79lay f79layX
def Jh:ay Tryz.prog 79 vR:=f79ok strings_Join.ok
def Ji:bc:=⟨[⟨.sl 3 (.int .i64),false,false⟩],[⟨.str,false,false⟩]⟩
def Be:aQ:=⟨Ji,(some λX=>dw.P X.1),λX=>((),((dw.g X.1),()))⟩
def Jj:Gm:=aK (aK be 79 vR) 90 vO
def f47GOk:av Tryz.prog Jj:=((av.nil).add Jh (by kernel_rfl)).add Jf (by kernel_rfl)
def f47lE:ab:=⟨[],[],[],[],[]⟩
def f47s0(a:LI):St:=bA Ji.ps (a,())
def Jk(a:LI):St:=ah [(0,.c (.sn 3 tI a none))] [] []
def f47l1:ab:=⟨[0],[],[],[],[]⟩
def Jl(a:LI):St:=ah [(0,.c (.sn 3 tI a none)),(3,.c (.nil))] [] []
def f47l2:ab:=⟨[0,3],[],[],[],[]⟩
def Jm(a:LI)(b d:Int):St:=ah [(3,.c (.nil)),(6,.c (.sn 3 tI a none)),(7,xi b),(8,xi d)] [] []
def f47l3:ab:=⟨[3,6,7,8],[],[],[],[]⟩
def Jn(a:List ByteArray)(b:LI)(d e:Int):St:=ah [(3,xo 1000192),(6,.c (.sn 3 tI b none)),(7,xi d),(8,xi e)] [] [(1000192,(⟨9,.str,a,true,false⟩:ae))]
def f47l4:ab:=⟨[3,6,7,8],[],[⟨⟨false,3,0⟩,30000000,9,.str,true⟩],[],[(⟨false,3,0⟩,1000192)]⟩
def sw(a:List ByteArray):St:=ah [(3,xo 1000192)] [] [(1000192,(⟨9,.str,a,true,false⟩:ae))]
def Bf:ab:=⟨[3],[],[],[],[(⟨false,3,0⟩,1000192)]⟩
def f47s6(a:ByteArray):St:=ah [(2,.c (.str a))] [] []
def f47l6:ab:=⟨[2],[],[],[],[]⟩
def f47B:Nat->Option ab:=aA [(0,Bf),(1000000,f47l6)]
abbrev sx{J:Type}(N n:Nat)(V:St)(l:ab)(K:KT J):Option J:=am Jj bg f47B N (aZ 99 (bm Tryz.f47) n) .n V (az (some l) K)
def f47t1 N a (K:KT J):sx N 2 (f47s0 a) f47l1 K =
 dw.Z1 N a (λa=>K .nrm (Jk a)):=by kernel_rfl
def f47t3 N a (K:KT J):sx N 5 (Jk a) f47l2 K =
 dw.Z3 N a (λa=>K .nrm (Jl a)):=by kernel_rfl
def f47t6 N a (K:KT J):sx N 19 (Jl a) f47l3 K =
 dw.Z6 N a (λb c d=>K .nrm (Jm b c d)):=by kernel_rfl
def f47t9 N a b c d (K:KT J):sx N 75 (Jn a b c d) f47l4 K =
 dw.Z9 N a b c d (λa b c d=>K .nrm (Jn a b c d)) (λa=>K (.exit 0) (sw a)):=by kernel_rfl
def f47t8L N (K:KT J):=q7 K (dw.Z8L N (λa=>K (.exit 0) (sw a))) (λa b c d k=>dw.Z9 N a b c d k (λa=>K (.exit 0) (sw a))) (λF a b c d=>f47t9 N a b c d _) (by kernel_rfl)
def f47t8 N a b c (K:KT J):=vL (Jm a b c) (f47t8L N (jK Bf K) N ([]:List ByteArray) a b c) (by kernel_rfl)
def f47t7 N a b c (K:KT J):=vB 0 Bf K (dw.Z7 N a b c (λd=>K .nrm (sw d))) (f47t8 N a b c _) (by kernel_rfl)
def f47t5 N a (K:KT J):=vQ (λk=>dw.Z6 N a k) (f47t6 N a _) (cW λb c d=>f47t7 N b c d K)
def f47t10 N a (K:KT J):sx N 15 (sw a) f47lE K =
 dw.Z10 N a (λb=>K .ret (f47s6 b)):=by kernel_rfl
def f47t4 N a (K:KT J):=vQ (λk=>dw.Z5 N a k) (f47t5 N a _) (funext λb=>f47t10 N b K)
def f47t2 N a (K:KT J):=vQ (λk=>dw.Z3 N a k) (f47t3 N a _) (funext λa=>f47t4 N a K)
def f47t0 N a (K:KT J):=vQ (λk=>dw.Z1 N a k) (f47t1 N a _) (funext λa=>f47t2 N a K)
def f47ok(h:dw.Spec):ay Tryz.prog 47 Be :=
 bI Tryz.func47 bu f47GOk (λN X K=>f47t0 N X.1 K) (by kernel_rfl) λX hb hp=>by obtain⟨a,_⟩:=X;obtain⟨N,h⟩:=h a hb.1 hp;exact⟨N,Eq.trans (by kernel_rfl) (h N (Nat.le_refl N))⟩
def e47ok:ay Tryz.prog 47 Be:=f47ok dw.ok
end Go.Fw
namespace Go.Fw
variable {J : Type}
open Go.Proofs
variable [DC]
def Jo:bc:=⟨[⟨.pair (.int .i64) (.pair (.int .i64) (.sl 3 (.int .i64))),true,false⟩,⟨.pair (.int .i64) (.pair (.int .i64) (.sl 3 (.int .i64))),true,false⟩],[⟨.int .i64,false,false⟩]⟩
def Jp:aQ:=⟨Jo,none,λX=>((),((nT.g X.1 X.2.1),()))⟩
def Jq:Gm:=aK be 51 vH
def f50GOk:av Tryz.prog Jq:=(av.nil).add IY (by kernel_rfl)
def f50lE:ab:=⟨[],[],[],[],[]⟩
def f50s0(a b:MT):St:=bA Jo.ps (a,(b,()))
def f50s1(a:Int):St:=ah [(4,xi a)] [] []
def f50l1:ab:=⟨[4],[],[],[],[]⟩
def f50B:Nat->Option ab:=aA [(1000000,f50l1)]
abbrev f50j{J:Type}(N n:Nat)(V:St)(l:ab)(K:KT J):Option J:=am Jq bg f50B N (aZ 99 (bm Tryz.f50) n) .n V (az (some l) K)
def f50t0 N a b (K:KT J):f50j N 1 (f50s0 a b) f50lE K =
 nT.Z0 N a b (λc=>K .ret (f50s1 c)):=by kernel_rfl
def f50ok(h:nT.Spec):ay Tryz.prog 50 Jp :=
 bI Tryz.func50 bu f50GOk (λN X K=>f50t0 N X.1 X.2.1 K) (by kernel_rfl) λX hb hp=>by obtain⟨a,b,_⟩:=X;obtain⟨N,h⟩:=h a b hb.1 hb.2.1;exact⟨N,Eq.trans (by kernel_rfl) (h N (Nat.le_refl N))⟩
def e50ok:ay Tryz.prog 50 Jp:=f50ok nT.ok
end Go.Fw
namespace Go.Fw
variable {J : Type}
open Go.Proofs
def f49sig:bc:=⟨[⟨.sl 27 (.pair (.int .i64) (.pair (.int .i64) (.sl 3 (.int .i64)))),false,true⟩,⟨.fnc 50,false,false⟩],[]⟩
def Bg:aQ:=⟨f49sig,(some λX=>jU.P X.1 X.2.1),λX=>((jU.g X.1 X.2.1),())⟩
def z02:Go.Shelf.Ren:=⟨λ|6=>49|15=>94|14=>93|28=>130|29=>131|20=>122|21=>123|22=>124|23=>125|24=>126|25=>127|26=>128|27=>129|46=>160|47=>161|48=>162|49=>163|50=>164|57=>184|n=>n,λ|22=>31|24=>27|25=>63|3=>3|39=>96|0=>0|53=>130|55=>132|4=>4|46=>123|45=>122|50=>127|5=>5|9=>9|66=>150|70=>120|76=>173|77=>174|n=>n,λn=>n⟩
def f49lay:SlLaysF0.n6 Tryz.prog z02:={ mixed:=(by kernel_rfl),f6:=⟨Tryz.f49.name,(by kernel_rfl),Tryz.func49.trans (congrArg some (by kernel_rfl))⟩,f14:=⟨Tryz.f93.name,(by kernel_rfl),Tryz.func93.trans (congrArg some (by kernel_rfl))⟩,f15:=Tryz.func94.trans (congrArg some (by kernel_rfl)),f20:=⟨Tryz.f122.name,(by kernel_rfl),Tryz.func122.trans (congrArg some (by kernel_rfl))⟩,f21:=⟨Tryz.f123.name,(by kernel_rfl),Tryz.func123.trans (congrArg some (by kernel_rfl))⟩,f22:=⟨Tryz.f124.name,(by kernel_rfl),Tryz.func124.trans (congrArg some (by kernel_rfl))⟩,f23:=⟨Tryz.f125.name,(by kernel_rfl),Tryz.func125.trans (congrArg some (by kernel_rfl))⟩,f24:=⟨Tryz.f126.name,(by kernel_rfl),Tryz.func126.trans (congrArg some (by kernel_rfl))⟩,f25:=⟨Tryz.f127.name,(by kernel_rfl),Tryz.func127.trans (congrArg some (by kernel_rfl))⟩,f26:=⟨Tryz.f128.name,(by kernel_rfl),Tryz.func128.trans (congrArg some (by kernel_rfl))⟩,f27:=⟨Tryz.f129.name,(by kernel_rfl),Tryz.func129.trans (congrArg some (by kernel_rfl))⟩,f28:=Tryz.func130.trans (congrArg some (by kernel_rfl)),f29:=Tryz.func131.trans (congrArg some (by kernel_rfl)),f46:=⟨Tryz.f160.name,(by kernel_rfl),Tryz.func160.trans (congrArg some (by kernel_rfl))⟩,f47:=Tryz.func161.trans (congrArg some (by kernel_rfl)),f48:=Tryz.func162.trans (congrArg some (by kernel_rfl)),f49:=⟨Tryz.f163.name,(by kernel_rfl),Tryz.func163.trans (congrArg some (by kernel_rfl))⟩,f50:=⟨Tryz.f164.name,(by kernel_rfl),Tryz.func164.trans (congrArg some (by kernel_rfl))⟩,f57:=⟨Tryz.f184.name,(by kernel_rfl),Tryz.func184.trans (congrArg some (by kernel_rfl))⟩,t0:=Tryz.underlying0,a0:=Tryz.isAgg0,z0:=Tryz.sizeOf0,v0:=Tryz.zeroValue0,t3:=Tryz.underlying3,a3:=Tryz.isAgg3,z3:=Tryz.sizeOf3,v3:=Tryz.zeroValue3,t4:=Tryz.underlying4,a4:=Tryz.isAgg4,z4:=Tryz.sizeOf4,v4:=Tryz.zeroValue4,t5:=Tryz.underlying5,a5:=Tryz.isAgg5,z5:=Tryz.sizeOf5,v5:=Tryz.zeroValue5,t9:=Tryz.underlying9,a9:=Tryz.isAgg9,z9:=Tryz.sizeOf9,v9:=Tryz.zeroValue9,t22:=Tryz.underlying31,a22:=Tryz.isAgg31,z22:=Tryz.sizeOf31,v22:=Tryz.zeroValue31,t25:=Tryz.underlying63,a25:=Tryz.isAgg63,z25:=Tryz.sizeOf63,v25:=Tryz.zeroValue63,t39:=Tryz.underlying96,a39:=Tryz.isAgg96,z39:=Tryz.sizeOf96,v39:=Tryz.zeroValue96,t45:=Tryz.underlying122,a45:=Tryz.isAgg122,z45:=Tryz.sizeOf122,v45:=Tryz.zeroValue122,t46:=Tryz.underlying123,a46:=Tryz.isAgg123,z46:=Tryz.sizeOf123,v46:=Tryz.zeroValue123,t50:=Tryz.underlying127,a50:=Tryz.isAgg127,z50:=Tryz.sizeOf127,v50:=Tryz.zeroValue127,t53:=Tryz.underlying130,a53:=Tryz.isAgg130,z53:=Tryz.sizeOf130,v53:=Tryz.zeroValue130,t55:=Tryz.underlying132,a55:=Tryz.isAgg132,z55:=Tryz.sizeOf132,v55:=Tryz.zeroValue132,t66:=Tryz.underlying150,a66:=Tryz.isAgg150,z66:=Tryz.sizeOf150,v66:=Tryz.zeroValue150,t70:=Tryz.underlying120,a70:=Tryz.isAgg120,z70:=Tryz.sizeOf120,v70:=Tryz.zeroValue120,t76:=Tryz.underlying173,a76:=Tryz.isAgg173,z76:=Tryz.sizeOf173,v76:=Tryz.zeroValue173,t77:=Tryz.underlying174,a77:=Tryz.isAgg174,z77:=Tryz.sizeOf174,v77:=Tryz.zeroValue174 }
def f49ok(_:True):ay Tryz.prog 49 Bg:=Ni (t:=.pair (.int .i64) (.pair (.int .i64) (.sl 3 (.int .i64)))) (e:=27) f49lay (c:=50) (0,(0,[])) Tryz.isAgg27 Tryz.sizeOf27 zd (@e50ok DC.tt) (by
 have h2:¬ Tryz.f50.body=none:=by
  intro h;have:Tryz.f50.body.isSome=true:=by kernel_rfl
  rw[h]at this;cases this
 have h1 : ¬ Tryz.f50.name = "runtime.NumGoroutine" := by decide +kernel
 intro args w;simp[callFunc,Tryz.func50,h1,h2])
def e49ok:ay Tryz.prog 49 Bg:=f49ok jU.ok
def Jr:bc:=⟨[⟨.pair (.int .i64) (.pair (.int .i64) (.sl 3 (.int .i64))),true,false⟩],[⟨.sl 27 (.pair (.int .i64) (.pair (.int .i64) (.sl 3 (.int .i64)))),false,false⟩,⟨.bool,false,false⟩]⟩
def Bh:aQ:=⟨Jr,none,λX=>((),((cu.g X.1).1,((cu.g X.1).2,())))⟩
def Js:Gm:=aK (aK (aK (aK be 34 A8) 47 Be) 48 vr) 49 Bg
def f15GOk:av Tryz.prog Js:=((((av.nil).add e34ok (by kernel_rfl)).add e47ok (by kernel_rfl)).add Ij (by kernel_rfl)).add e49ok (by kernel_rfl)
def f15lE:ab:=⟨[],[],[],[],[]⟩
def f15s0(a:MT):St:=bA Jr.ps (a,())
def Jt(a b:Int)(c:LI):St:=ah [(1,xb 1)] [(1,(27,[yi a,yi b,.sn 3 tI c none]))] []
def f15l1:ab:=⟨[1],[1],[],[],[]⟩
def Ju(a:LI)(b:Bool)(c d:Int)(e:LI)(f g:Int):St:=ah [(1,xb 1),(4,xb 4),(5,xB b)] [(1,(27,[yi c,yi d,.sn 3 tI e none])),(4,(27,[yi f,yi g,.own 20000258]))] [(20000258,(⟨3,.int .i64,a,true,false⟩:ae))]
def f15l2:ab:=⟨[1,4,5],[1,4],[],[],[(⟨true,4,2⟩,20000258)]⟩
def Jv(a:LI)(b c:Int)(d:LI)(e f:Int):St:=ah [(1,xb 1),(4,xb 4)] [(1,(27,[yi b,yi c,.sn 3 tI d none])),(4,(27,[yi e,yi f,.own 20000258]))] [(20000258,(⟨3,.int .i64,a,true,false⟩:ae))]
def f15l3:ab:=⟨[1,4],[1,4],[],[],[(⟨true,4,2⟩,20000258)]⟩
def Jw(a:LM)(b c:Int)(d:LI)(e f:Int)(g:LI):St:=ah [(1,xb 1),(4,xb 4),(6,xo 1000384)] [(1,(27,[yi b,yi c,.sn 3 tI d none])),(4,(27,[yi e,yi f,.sn 3 tI g (some 1000384)]))] [(1000384,(⟨27,tM 3,a,true,false⟩:ae))]
def f15l4:ab:=⟨[1,4,6],[1,4],[],[],[(⟨false,6,0⟩,1000384)]⟩
def Jx(a:LM)(b d:Int)(e:LI)(f:List ByteArray):St:=ah [(1,xb 1),(6,xo 1000384),(7,.c (.mp 24))] [(1,(27,[yi b,yi d,.sn 3 tI e none])),(24,(1000000059,[.mset (.str) f]))] [(1000384,(⟨27,tM 3,a,true,false⟩:ae))]
def f15l5:ab:=⟨[1,6,7],[1,24],[],[],[(⟨false,6,0⟩,1000384)]⟩
def jm(a:LM)(b d e:Int)(f:LI)(g:List ByteArray):St:=ah [(1,xb 1),(6,xo 1000384),(7,.c (.mp 24)),(8,xi b)] [(1,(27,[yi d,yi e,.sn 3 tI f none])),(24,(1000000059,[.mset (.str) g]))] [(1000384,(⟨27,tM 3,a,true,false⟩:ae))]
def mi:ab:=⟨[1,6,7,8],[1,24],[],[],[(⟨false,6,0⟩,1000384)]⟩
def vS(a:LM)(b d e f:Int)(g:LI)(h:List ByteArray):St:=ah [(1,xb 1),(6,xo 1000384),(7,.c (.mp 24)),(8,xi b),(9,xi d)] [(1,(27,[yi e,yi f,.sn 3 tI g none])),(24,(1000000059,[.mset (.str) h]))] [(1000384,(⟨27,tM 3,a,true,false⟩:ae))]
def Jy:ab:=⟨[1,6,7,8,9],[1,24],[],[],[(⟨false,6,0⟩,1000384)]⟩
def pW(a:LM):St:=ah [(6,xo 1000384)] [] [(1000384,(⟨27,tM 3,a,true,false⟩:ae))]
def Bi:ab:=⟨[6],[],[],[],[(⟨false,6,0⟩,1000384)]⟩
def iI(a:LM)(b:Bool):St:=ah [(2,xo 1000128),(3,xB b)] [] [(1000128,(⟨27,tM 3,a,true,false⟩:ae))]
def f15l9:ab:=⟨[2,3],[],[⟨⟨false,2,0⟩,30000000,27,.pair (.int .i64) (.pair (.int .i64) (.sl 3 (.int .i64))),true⟩],[],[(⟨false,2,0⟩,1000128)]⟩
def f15B:Nat->Option ab:=aA [(2,mi),(1,mi),(0,Bi),(1000000,f15l9)]
abbrev jP{J:Type}(N n:Nat)(V:St)(l:ab)(K:KT J):Option J:=am Js bg f15B N (aZ 99 (bm Tryz.f15) n) .n V (az (some l) K)
def f15t1 N a (K:KT J):jP N 2 (f15s0 a) f15l1 K =
 cu.Z1 N a (λb c d=>K .nrm (Jt b c d)):=by kernel_rfl
def f15t3 N a b c (K:KT J):jP N 5 (Jt a b c) f15l2 K =
 cu.Z3 N a b c (λd e a b c f g=>K .nrm (Ju d e a b c f g)):=by kernel_rfl
def f15t5 N a g b c d e f (K:KT J):jP N 11 (Ju a g b c d e f) f15l3 K =
 cu.Z5 N a g b c d e f (λa b c d e f=>K .nrm (Jv a b c d e f)) (λh i=>K .ret (iI h i)):=by kernel_rfl
def f15t7 N a b c d e f (K:KT J):jP N 23 (Jv a b c d e f) f15l4 K =
 cu.Z7 N a b c d e f (λg b c d e f a=>K .nrm (Jw g b c d e f a)):=by kernel_rfl
def f15t9 N a b c d e f g (K:KT J):jP N 47 (Jw a b c d e f g) f15l5 K =
 cu.Z9 N a b c d e f g (λa b c d h=>K .nrm (Jx a b c d h)):=by kernel_rfl
def f15t12 N a b c d e (K:KT J):jP N 159 (Jx a b c d e) mi K =
 cu.Z12 N a b c d e (λa f b c d e=>K .nrm (jm a f b c d e)):=by kernel_rfl
def f15t16 N a b c d e f (K:KT J):jP N 1119 (jm a b c d e f) mi K =
 cu.Z16 N a b c d e f (λa b c d e f=>K .nrm (jm a b c d e f)) (λa=>K (.exit 0) (pW a)):=by kernel_rfl
def f15t20 N a b c d e f (K:KT J):jP N 8799 (jm a b c d e f) Jy K =
 cu.Z20 N a b c d e f (λa b g c d e f=>K .nrm (vS a b g c d e f)):=by kernel_rfl
def f15t23 N a b g c d e f (K:KT J):jP N 37471 (vS a b g c d e f) Jy K =
 cu.Z23 N a b g c d e f (λa b g c d e f=>K .nrm (vS a b g c d e f)) (λa b c d e f=>K (.exit 2) (jm a b c d e f)) (λh i=>K .ret (iI h i)):=by kernel_rfl
def f15t22L N (K:KT J):=nn K (cu.Z22L N (λa b c d e f=>K (.exit 2) (jm a b c d e f)) (λg h=>K .ret (iI g h))) (λa b i c d e f k=>cu.Z23 N a b i c d e f k (λa b c d e f=>K (.exit 2) (jm a b c d e f)) (λg h=>K .ret (iI g h))) (λF a b i c d e f=>f15t23 N a b i c d e f _) (by kernel_rfl)
def f15t22 N a b c d e f g (K:KT J):=vL (vS a b c d e f g) (f15t22L N (jK mi K) N a b c d e f g) (by kernel_rfl)
def f15t21 N a b g c d e f (K:KT J):=vB 2 mi K (cu.Z21 N a b g c d e f (λa b c d e f=>K .nrm (jm a b c d e f)) (λh i=>K .ret (iI h i))) (f15t22 N a b g c d e f _) (by kernel_rfl)
def f15t19 N a b c d e f (K:KT J):=vQ (λk=>cu.Z20 N a b c d e f k) (f15t20 N a b c d e f _) (fa λa b g c d e f=>f15t21 N a b g c d e f K)
def f15t18 N a b c d e f (K:KT J):=vB 1 mi K (cu.Z18 N a b c d e f (λa b c d e f=>K .nrm (jm a b c d e f)) (λg h=>K .ret (iI g h))) (f15t19 N a b c d e f _) (by kernel_rfl)
def f15t24 N a b c d e f (K:KT J):jP N 3679 (jm a b c d e f) mi K =
 cu.Z24 N a b c d e f (λa b c d e f=>K .nrm (jm a b c d e f)):=by kernel_rfl
def f15t17 N a b c d e f (K:KT J):=vQ (λk=>cu.Z18 N a b c d e f k (λg h=>K .ret (iI g h))) (f15t18 N a b c d e f _) (cN λa b c d e f=>f15t24 N a b c d e f K)
def f15t15 N a b c d e f (K:KT J):=vQ (λk=>cu.Z16 N a b c d e f k (λa=>K (.exit 0) (pW a))) (f15t16 N a b c d e f _) (cN λa b c d e f=>f15t17 N a b c d e f K)
def f15t14L N (K:KT J):=lF K (cu.Z14L N (λa=>K (.exit 0) (pW a)) (λb c=>K .ret (iI b c))) (λa d e f g h k=>cu.Z15 N a d e f g h k (λa=>K (.exit 0) (pW a)) (λb c=>K .ret (iI b c))) (λF a d e f g h=>f15t15 N a d e f g h _) (by kernel_rfl)
def f15t14 N a b c d e f (K:KT J):=vL (jm a b c d e f) (f15t14L N (jK Bi K) N a b c d e f) (by kernel_rfl)
def f15t13 N a b c d e f (K:KT J):=vB 0 Bi K (cu.Z13 N a b c d e f (λa=>K .nrm (pW a)) (λg h=>K .ret (iI g h))) (f15t14 N a b c d e f _) (by kernel_rfl)
def f15t11 N a b c d e (K:KT J):=vQ (λk=>cu.Z12 N a b c d e k) (f15t12 N a b c d e _) (cN λa f b c d e=>f15t13 N a f b c d e K)
def f15t25 N a (K:KT J):jP N 127 (pW a) f15lE K =
 cu.Z25 N a (λb c=>K .ret (iI b c)):=by kernel_rfl
def f15t10 N a b c d e (K:KT J):=vQ (λk=>cu.Z11 N a b c d e k (λf g=>K .ret (iI f g))) (f15t11 N a b c d e _) (funext λa=>f15t25 N a K)
def f15t8 N a b c d e f g (K:KT J):=vQ (λk=>cu.Z9 N a b c d e f g k) (f15t9 N a b c d e f g _) (cH λa b c d h=>f15t10 N a b c d h K)
def f15t6 N a b c d e f (K:KT J):=vQ (λk=>cu.Z7 N a b c d e f k) (f15t7 N a b c d e f _) (fa λg b c d e f a=>f15t8 N g b c d e f a K)
def f15t4 N a g b c d e f (K:KT J):=vQ (λk=>cu.Z5 N a g b c d e f k (λh i=>K .ret (iI h i))) (f15t5 N a g b c d e f _) (cN λa b c d e f=>f15t6 N a b c d e f K)
def f15t2 N a b c (K:KT J):=vQ (λk=>cu.Z3 N a b c k) (f15t3 N a b c _) (fa λd e a b c f g=>f15t4 N d e a b c f g K)
def f15t0 N a (K:KT J):=vQ (λk=>cu.Z1 N a k) (f15t1 N a _) (cW λb c d=>f15t2 N b c d K)
def f15ok(h:cu.Spec):ay Tryz.prog 15 Bh :=
 bI Tryz.func15 bu f15GOk (λN X K=>f15t0 N X.1 K) (by kernel_rfl) λX hb hp=>by obtain⟨a,_⟩:=X;obtain⟨N,h⟩:=h a hb.1;exact⟨N,Eq.trans (by kernel_rfl) (h N (Nat.le_refl N))⟩
def e15ok:ay Tryz.prog 15 Bh:=f15ok cu.ok
def Jz:bc:=⟨[⟨.pair (.int .i64) (.pair (.int .i64) (.sl 3 (.int .i64))),true,false⟩],[⟨.sl 27 (.pair (.int .i64) (.pair (.int .i64) (.sl 3 (.int .i64)))),false,false⟩,⟨.bool,false,false⟩]⟩
def vT:aQ:=⟨Jz,none,λX=>((),((bS.g X.1).1,((bS.g X.1).2,())))⟩
def JA:Gm:=aK (aK (aK be 15 Bh) 31 AQ) 83 l7
def f42GOk:av Tryz.prog JA:=(((av.nil).add e15ok (by kernel_rfl)).add e31ok (by kernel_rfl)).add pH (by kernel_rfl)
def f42lE:ab:=⟨[],[],[],[],[]⟩
def f42s0(a:MT):St:=bA Jz.ps (a,())
def JB(a b:Int)(c:LI):St:=ah [(1,xb 1)] [(1,(27,[yi a,yi b,.sn 3 tI c none]))] []
def f42l1:ab:=⟨[1],[1],[],[],[]⟩
def JC(a:LM)(b:Bool):St:=ah [(4,xo 1000256),(5,xB b)] [] [(1000256,(⟨27,tM 3,a,true,false⟩:ae))]
def f42l2:ab:=⟨[4,5],[],[],[],[(⟨false,4,0⟩,1000256)]⟩
def mj(a:LM):St:=ah [(4,xo 1000256)] [] [(1000256,(⟨27,tM 3,a,true,false⟩:ae))]
def vU:ab:=⟨[4],[],[],[],[(⟨false,4,0⟩,1000256)]⟩
def iJ(a:LM)(b c:Int):St:=ah [(4,xo 1000256),(18,xo 1000256),(19,xi b),(20,xi c)] [] [(1000256,(⟨27,tM 3,a,true,false⟩:ae))]
def ml:ab:=⟨[4,18,19,20],[],[],[],[(⟨false,4,0⟩,1000256)]⟩
def JD(a:LM)(b c:Int)(d:Bool):St:=ah [(4,xo 1000256),(18,xo 1000256),(19,xi b),(20,xi c),(21,xB d)] [] [(1000256,(⟨27,tM 3,a,true,false⟩:ae))]
def f42l5:ab:=⟨[4,18,19,20,21],[],[],[],[(⟨false,4,0⟩,1000256)]⟩
def JE(a:LM)(b c d e:Int)(f:LI):St:=ah [(4,xo 1000256),(7,xb 7),(18,xo 1000256),(19,xi b),(20,xi c)] [(7,(27,[yi d,yi e,.sn 3 tI f (some 1000256)]))] [(1000256,(⟨27,tM 3,a,true,false⟩:ae))]
def f42l6:ab:=⟨[4,7,18,19,20],[7],[],[],[(⟨false,4,0⟩,1000256)]⟩
def jn(a:LM)(b c d e f:Int)(g:LI):St:=ah [(4,xo 1000256),(7,xb 7),(8,xi b),(18,xo 1000256),(19,xi c),(20,xi d)] [(7,(27,[yi e,yi f,.sn 3 tI g (some 1000256)]))] [(1000256,(⟨27,tM 3,a,true,false⟩:ae))]
def mm:ab:=⟨[4,7,8,18,19,20],[7],[],[],[(⟨false,4,0⟩,1000256)]⟩
def vV(a:LM)(b c d e f g:Int)(h:LI):St:=ah [(4,xo 1000256),(7,xb 7),(8,xi b),(9,xi c),(18,xo 1000256),(19,xi d),(20,xi e)] [(7,(27,[yi f,yi g,.sn 3 tI h (some 1000256)]))] [(1000256,(⟨27,tM 3,a,true,false⟩:ae))]
def JF:ab:=⟨[4,7,8,9,18,19,20],[7],[],[],[(⟨false,4,0⟩,1000256)]⟩
def fN(a:LM)(b:Bool):St:=ah [(2,xo 1000128),(3,xB b)] [] [(1000128,(⟨27,tM 3,a,true,false⟩:ae))]
def f42l9:ab:=⟨[2,3],[],[⟨⟨false,2,0⟩,30000000,27,.pair (.int .i64) (.pair (.int .i64) (.sl 3 (.int .i64))),true⟩],[],[(⟨false,2,0⟩,1000128)]⟩
def f42B:Nat->Option ab:=aA [(4,mm),(3,mm),(2,ml),(1,ml),(0,vU),(1000000,f42l9)]
abbrev g9{J:Type}(N n:Nat)(V:St)(l:ab)(K:KT J):Option J:=am JA bg f42B N (aZ 99 (bm Tryz.f42) n) .n V (az (some l) K)
def f42t1 N a (K:KT J):g9 N 2 (f42s0 a) f42l1 K =
 bS.Z1 N a (λb c d=>K .nrm (JB b c d)):=by kernel_rfl
def f42t3 N a b c (K:KT J):g9 N 5 (JB a b c) f42l2 K =
 bS.Z3 N a b c (λd e=>K .nrm (JC d e)):=by kernel_rfl
def f42t5 N a b (K:KT J):g9 N 11 (JC a b) vU K =
 bS.Z5 N a b (λa=>K .nrm (mj a)) (λc d=>K .ret (fN c d)):=by kernel_rfl
def f42t8 N a (K:KT J):g9 N 39 (mj a) ml K =
 bS.Z8 N a (λa b c=>K .nrm (iJ a b c)):=by kernel_rfl
def f42t12 N a b c (K:KT J):g9 N 279 (iJ a b c) f42l5 K =
 bS.Z12 N a b c (λa b c d=>K .nrm (JD a b c d)):=by kernel_rfl
def f42t14 N a b c d (K:KT J):g9 N 663 (JD a b c d) ml K =
 bS.Z14 N a b c d (λa b c=>K .nrm (iJ a b c)) (λa=>K (.exit 0) (mj a)):=by kernel_rfl
def f42t18 N a b c (K:KT J):g9 N 4503 (iJ a b c) f42l6 K =
 bS.Z18 N a b c (λa b c d e f=>K .nrm (JE a b c d e f)):=by kernel_rfl
def f42t20 N a b c d e f (K:KT J):g9 N 10647 (JE a b c d e f) mm K =
 bS.Z20 N a b c d e f (λa g b c d e f=>K .nrm (jn a g b c d e f)):=by kernel_rfl
def f42t24 N a d b c e f g (K:KT J):g9 N 72087 (jn a d b c e f g) mm K =
 bS.Z24 N a d b c e f g (λa d b c e f g=>K .nrm (jn a d b c e f g)) (λa b c=>K (.exit 2) (iJ a b c)):=by kernel_rfl
def f42t28 N a b c d e f g (K:KT J):g9 N 563607 (jn a b c d e f g) JF K =
 bS.Z28 N a b c d e f g (λa b h c d e f g=>K .nrm (vV a b h c d e f g)):=by kernel_rfl
def f42t31 N a b h c d e f g (K:KT J):g9 N 2398615 (vV a b h c d e f g) JF K =
 bS.Z31 N a b h c d e f g (λa b h c d e f g=>K .nrm (vV a b h c d e f g)) (λa b c d e f g=>K (.exit 4) (jn a b c d e f g)) (λi j=>K .ret (fN i j)):=by kernel_rfl
def f42t30L N (K:KT J):=lG K (bS.Z30L N (λa b c d e f g=>K (.exit 4) (jn a b c d e f g)) (λh i=>K .ret (fN h i))) (λa b j c d e f g k=>bS.Z31 N a b j c d e f g k (λa b c d e f g=>K (.exit 4) (jn a b c d e f g)) (λh i=>K .ret (fN h i))) (λF a b j c d e f g=>f42t31 N a b j c d e f g _) (by kernel_rfl)
def f42t30 N a b c d e f g h (K:KT J):=vL (vV a b c d e f g h) (f42t30L N (jK mm K) N a b c d e f g h) (by kernel_rfl)
def f42t29 N a b h c d e f g (K:KT J):=vB 4 mm K (bS.Z29 N a b h c d e f g (λa b c d e f g=>K .nrm (jn a b c d e f g)) (λi j=>K .ret (fN i j))) (f42t30 N a b h c d e f g _) (by kernel_rfl)
def f42t27 N a b c d e f g (K:KT J):=vQ (λk=>bS.Z28 N a b c d e f g k) (f42t28 N a b c d e f g _) (dy λa b h c d e f g=>f42t29 N a b h c d e f g K)
def f42t26 N a b c d e f g (K:KT J):=vB 3 mm K (bS.Z26 N a b c d e f g (λa b c d e f g=>K .nrm (jn a b c d e f g)) (λh i=>K .ret (fN h i))) (f42t27 N a b c d e f g _) (by kernel_rfl)
def f42t32 N a b c d e f g (K:KT J):g9 N 235927 (jn a b c d e f g) mm K =
 bS.Z32 N a b c d e f g (λa b c d e f g=>K .nrm (jn a b c d e f g)):=by kernel_rfl
def f42t25 N a b c d e f g (K:KT J):=vQ (λk=>bS.Z26 N a b c d e f g k (λh i=>K .ret (fN h i))) (f42t26 N a b c d e f g _) (fa λa b c d e f g=>f42t32 N a b c d e f g K)
def f42t23 N a d b c e f g (K:KT J):=vQ (λk=>bS.Z24 N a d b c e f g k (λa b c=>K (.exit 2) (iJ a b c))) (f42t24 N a d b c e f g _) (fa λa d b c e f g=>f42t25 N a d b c e f g K)
def f42t22L N (K:KT J):=nn K (bS.Z22L N (λa b c=>K (.exit 2) (iJ a b c)) (λd e=>K .ret (fN d e))) (λa f b c g h i k=>bS.Z23 N a f b c g h i k (λa b c=>K (.exit 2) (iJ a b c)) (λd e=>K .ret (fN d e))) (λF a f b c g h i=>f42t23 N a f b c g h i _) (by kernel_rfl)
def f42t22 N a b c d e f g (K:KT J):=vL (jn a b c d e f g) (f42t22L N (jK ml K) N a b c d e f g) (by kernel_rfl)
def f42t21 N a d b c e f g (K:KT J):=vB 2 ml K (bS.Z21 N a d b c e f g (λa b c=>K .nrm (iJ a b c)) (λh i=>K .ret (fN h i))) (f42t22 N a d b c e f g _) (by kernel_rfl)
def f42t19 N a b c d e f (K:KT J):=vQ (λk=>bS.Z20 N a b c d e f k) (f42t20 N a b c d e f _) (fa λa g b c d e f=>f42t21 N a g b c d e f K)
def f42t17 N a b c (K:KT J):=vQ (λk=>bS.Z18 N a b c k) (f42t18 N a b c _) (cN λa b c d e f=>f42t19 N a b c d e f K)
def f42t16 N a b c (K:KT J):=vB 1 ml K (bS.Z16 N a b c (λa b c=>K .nrm (iJ a b c)) (λd e=>K .ret (fN d e))) (f42t17 N a b c _) (by kernel_rfl)
def f42t33 N a b c (K:KT J):g9 N 1943 (iJ a b c) ml K =
 bS.Z33 N a b c (λa b c=>K .nrm (iJ a b c)):=by kernel_rfl
def f42t15 N a b c (K:KT J):=vQ (λk=>bS.Z16 N a b c k (λd e=>K .ret (fN d e))) (f42t16 N a b c _) (cW λa b c=>f42t33 N a b c K)
def f42t13 N a b c d (K:KT J):=vQ (λk=>bS.Z14 N a b c d k (λa=>K (.exit 0) (mj a))) (f42t14 N a b c d _) (cW λa b c=>f42t15 N a b c K)
def f42t11 N a b c (K:KT J):=vQ (λk=>bS.Z12 N a b c k) (f42t12 N a b c _) (eO λa b c d=>f42t13 N a b c d K)
def f42t10L N (K:KT J):=j0 K (bS.Z10L N (λa=>K (.exit 0) (mj a)) (λb c=>K .ret (fN b c))) (λa d e k=>bS.Z11 N a d e k (λa=>K (.exit 0) (mj a)) (λb c=>K .ret (fN b c))) (λF a d e=>f42t11 N a d e _) (by kernel_rfl)
def f42t10 N a b c (K:KT J):=vL (iJ a b c) (f42t10L N (jK vU K) N a b c) (by kernel_rfl)
def f42t9 N a b c (K:KT J):=vB 0 vU K (bS.Z9 N a b c (λa=>K .nrm (mj a)) (λd e=>K .ret (fN d e))) (f42t10 N a b c _) (by kernel_rfl)
def f42t7 N a (K:KT J):=vQ (λk=>bS.Z8 N a k) (f42t8 N a _) (cW λa b c=>f42t9 N a b c K)
def f42t34 N a (K:KT J):g9 N 31 (mj a) f42lE K =
 bS.Z34 N a (λb c=>K .ret (fN b c)):=by kernel_rfl
def f42t6 N a (K:KT J):=vQ (λk=>bS.Z7 N a k (λb c=>K .ret (fN b c))) (f42t7 N a _) (funext λa=>f42t34 N a K)
def f42t4 N a b (K:KT J):=vQ (λk=>bS.Z5 N a b k (λc d=>K .ret (fN c d))) (f42t5 N a b _) (funext λa=>f42t6 N a K)
def f42t2 N a b c (K:KT J):=vQ (λk=>bS.Z3 N a b c k) (f42t3 N a b c _) (eN λd e=>f42t4 N d e K)
def f42t0 N a (K:KT J):=vQ (λk=>bS.Z1 N a k) (f42t1 N a _) (cW λb c d=>f42t2 N b c d K)
def f42ok(h:bS.Spec):ay Tryz.prog 42 vT :=
 bI Tryz.func42 bu f42GOk (λN X K=>f42t0 N X.1 K) (by kernel_rfl) λX hb hp=>by obtain⟨a,_⟩:=X;obtain⟨N,h⟩:=h a hb.1;exact⟨N,Eq.trans (by kernel_rfl) (h N (Nat.le_refl N))⟩
def JG:ay Tryz.prog 42 vT:=f42ok bS.ok
def JH:bc:=⟨[⟨.pair (.int .i64) (.pair (.int .i64) (.sl 3 (.int .i64))),true,false⟩,⟨.int .i64,false,false⟩],[⟨.sl 3 (.int .i64),false,false⟩]⟩
def vW:aQ:=⟨JH,(some λX=>cG.P X.1 X.2.1),λX=>((),((cG.g X.1 X.2.1),()))⟩
def JI:Gm:=aK be 83 l7
def f110GOk:av Tryz.prog JI:=(av.nil).add pH (by kernel_rfl)
def f110lE:ab:=⟨[],[],[],[],[]⟩
def f110s0(a:MT)(b:Int):St:=bA JH.ps (a,(b,()))
def JJ(a b c:Int)(d:LI):St:=ah [(1,xi a),(2,xb 2)] [(2,(27,[yi b,yi c,.sn 3 tI d none]))] []
def f110l1:ab:=⟨[1,2],[2],[],[],[]⟩
def JK(a b d:Int)(e:LI):St:=ah [(1,xi a),(2,xb 2),(5,.c (.nil))] [(2,(27,[yi b,yi d,.sn 3 tI e none]))] []
def f110l2:ab:=⟨[1,2,5],[2],[],[],[]⟩
def JL(a b d e:Int)(f:LI):St:=ah [(1,xi a),(2,xb 2),(5,.c (.nil)),(6,xi b)] [(2,(27,[yi d,yi e,.sn 3 tI f none]))] []
def f110l3:ab:=⟨[1,2,5,6],[2],[],[],[]⟩
def JM(a:LI)(b c d e:Int)(f:LI):St:=ah [(1,xi b),(2,xb 2),(5,xo 1000320),(6,xi c)] [(2,(27,[yi d,yi e,.sn 3 tI f none]))] [(1000320,(⟨3,.int .i64,a,true,false⟩:ae))]
def f110l4:ab:=⟨[1,2,5,6],[2],[⟨⟨false,5,0⟩,30000000,3,.int .i64,true⟩],[],[(⟨false,5,0⟩,1000320)]⟩
def sy(a:LI):St:=ah [(5,xo 1000320)] [] [(1000320,(⟨3,.int .i64,a,true,false⟩:ae))]
def Bj:ab:=⟨[5],[],[],[],[(⟨false,5,0⟩,1000320)]⟩
def f110s6(a:LI):St:=ah [(4,xo 1000256)] [] [(1000256,(⟨3,.int .i64,a,true,false⟩:ae))]
def f110l6:ab:=⟨[4],[],[],[],[(⟨false,4,0⟩,1000256)]⟩
def f110B:Nat->Option ab:=aA [(0,Bj),(1000000,f110l6)]
abbrev sA{J:Type}(N n:Nat)(V:St)(l:ab)(K:KT J):Option J:=am JI bg f110B N (aZ 99 (bm Tryz.f110) n) .n V (az (some l) K)
def f110t1 N b a (K:KT J):sA N 2 (f110s0 b a) f110l1 K =
 cG.Z1 N b a (λa c d e=>K .nrm (JJ a c d e)):=by kernel_rfl
def f110t3 N a b c d (K:KT J):sA N 5 (JJ a b c d) f110l2 K =
 cG.Z3 N a b c d (λa b c d=>K .nrm (JK a b c d)):=by kernel_rfl
def f110t6 N a b c d (K:KT J):sA N 19 (JK a b c d) f110l3 K =
 cG.Z6 N a b c d (λa e b c d=>K .nrm (JL a e b c d)):=by kernel_rfl
def f110t9 N a b c d e f (K:KT J):sA N 75 (JM a b c d e f) f110l4 K =
 cG.Z9 N a b c d e f (λa b c d e f=>K .nrm (JM a b c d e f)) (λa=>K (.exit 0) (sy a)):=by kernel_rfl
def f110t8L N (K:KT J):=lF K (cG.Z8L N (λa=>K (.exit 0) (sy a))) (λa b c d e f k=>cG.Z9 N a b c d e f k (λa=>K (.exit 0) (sy a))) (λF a b c d e f=>f110t9 N a b c d e f _) (by kernel_rfl)
def f110t8 N a b c d e (K:KT J):=vL (JL a b c d e) (f110t8L N (jK Bj K) N ([]:List Int) a b c d e) (by kernel_rfl)
def f110t7 N a b c d e (K:KT J):=vB 0 Bj K (cG.Z7 N a b c d e (λf=>K .nrm (sy f))) (f110t8 N a b c d e _) (by kernel_rfl)
def f110t5 N a b c d (K:KT J):=vQ (λk=>cG.Z6 N a b c d k) (f110t6 N a b c d _) (cH λa e b c d=>f110t7 N a e b c d K)
def f110t10 N a (K:KT J):sA N 15 (sy a) f110lE K =
 cG.Z10 N a (λb=>K .ret (f110s6 b)):=by kernel_rfl
def f110t4 N a b c d (K:KT J):=vQ (λk=>cG.Z5 N a b c d k) (f110t5 N a b c d _) (funext λe=>f110t10 N e K)
def f110t2 N a b c d (K:KT J):=vQ (λk=>cG.Z3 N a b c d k) (f110t3 N a b c d _) (eO λa b c d=>f110t4 N a b c d K)
def f110t0 N b a (K:KT J):=vQ (λk=>cG.Z1 N b a k) (f110t1 N b a _) (eO λa c d e=>f110t2 N a c d e K)
def f110ok(h:cG.Spec):ay Tryz.prog 110 vW :=
 bI Tryz.func110 bu f110GOk (λN X K=>f110t0 N X.1 X.2.1 K) (by kernel_rfl) λX hb hp=>by obtain⟨a,b,_⟩:=X;obtain⟨N,h⟩:=h a b hb.1 hp;exact⟨N,Eq.trans (by kernel_rfl) (h N (Nat.le_refl N))⟩
def JN:ay Tryz.prog 110 vW:=f110ok cG.ok
def JO:bc:=⟨[⟨.pair (.int .i64) (.pair (.int .i64) (.sl 3 (.int .i64))),true,false⟩],[⟨.sl 22 (.sl 3 (.int .i64)),false,false⟩,⟨.bool,false,false⟩]⟩
def Bk:aQ:=⟨JO,(some λX=>bw.P X.1),λX=>((),((bw.g X.1).1,((bw.g X.1).2,())))⟩
def JP:Gm:=aK be 110 vW
def f76GOk:av Tryz.prog JP:=(av.nil).add JN (by kernel_rfl)
def f76lE:ab:=⟨[],[],[],[],[]⟩
def f76s0(a:MT):St:=bA JO.ps (a,())
def JQ(a b:Int)(c:LI):St:=ah [(1,xb 1)] [(1,(27,[yi a,yi b,.sn 3 tI c none]))] []
def f76l1:ab:=⟨[1],[1],[],[],[]⟩
def JR(a b:Int)(d:LI):St:=ah [(1,xb 1),(4,.c (.nil))] [(1,(27,[yi a,yi b,.sn 3 tI d none]))] []
def f76l2:ab:=⟨[1,4],[1],[],[],[]⟩
def JS(a:List Bool)(b d:Int)(e:LI):St:=ah [(1,xb 1),(4,.c (.nil)),(5,xo 1000320)] [(1,(27,[yi b,yi d,.sn 3 tI e none]))] [(1000320,(⟨4,.bool,a,true,false⟩:ae))]
def f76l3:ab:=⟨[1,4,5],[1],[],[],[(⟨false,5,0⟩,1000320)]⟩
def JT(a:List Bool)(b d e f:Int)(g:LI):St:=ah [(1,xb 1),(4,.c (.nil)),(5,xo 1000320),(16,xi b),(17,xi d)] [(1,(27,[yi e,yi f,.sn 3 tI g none]))] [(1000320,(⟨4,.bool,a,true,false⟩:ae))]
def f76l4:ab:=⟨[1,4,5,16,17],[1],[],[],[(⟨false,5,0⟩,1000320)]⟩
def JU(a:LL)(b:List Bool)(c d e f:Int)(g:LI):St:=ah [(1,xb 1),(4,xo 1000256),(5,xo 1000320),(16,xi c),(17,xi d)] [(1,(27,[yi e,yi f,.sn 3 tI g none]))] [(1000256,(⟨22,.sl 3 tI,a,true,false⟩:ae)),(1000320,(⟨4,.bool,b,true,false⟩:ae))]
def f76l11:ab:=⟨[1,4,5,16,17],[1],[⟨⟨false,4,0⟩,30000000,22,.sl 3 (.int .i64),true⟩],[],[(⟨false,4,0⟩,1000256),(⟨false,5,0⟩,1000320)]⟩
def nR(a:LL)(b:List Bool)(c d e f:Int)(g:LI):St:=ah [(1,xb 1),(4,xo 1000256),(5,xo 1000320),(16,xi c),(17,xi d)] [(1,(27,[yi e,yi f,.sn 3 tI g none]))] [(1000256,(⟨22,.sl 3 tI,a,true,false⟩:ae)),(1000320,(⟨4,.bool,b,true,false⟩:ae))]
def vX:ab:=⟨[1,4,5,16,17],[1],[],[],[(⟨false,4,0⟩,1000256),(⟨false,5,0⟩,1000320)]⟩
def JV(a:LL)(b:List Bool)(c d:Int)(e:Bool)(f g:Int)(h:LI):St:=ah [(1,xb 1),(4,xo 1000256),(5,xo 1000320),(16,xi c),(17,xi d),(18,xB e)] [(1,(27,[yi f,yi g,.sn 3 tI h none]))] [(1000256,(⟨22,.sl 3 tI,a,true,false⟩:ae)),(1000320,(⟨4,.bool,b,true,false⟩:ae))]
def f76l13:ab:=⟨[1,4,5,16,17,18],[1],[],[],[(⟨false,4,0⟩,1000256),(⟨false,5,0⟩,1000320)]⟩
def pX(a:LL)(b:List Bool)(c d e f g:Int)(h:LI):St:=ah [(1,xb 1),(4,xo 1000256),(5,xo 1000320),(6,xi c),(16,xi d),(17,xi e)] [(1,(27,[yi f,yi g,.sn 3 tI h none]))] [(1000256,(⟨22,.sl 3 tI,a,true,false⟩:ae)),(1000320,(⟨4,.bool,b,true,false⟩:ae))]
def Bl:ab:=⟨[1,4,5,6,16,17],[1],[],[],[(⟨false,4,0⟩,1000256),(⟨false,5,0⟩,1000320)]⟩
def JW(a:LL)(b:List Bool)(c:LI)(d e f g:Int)(h:LI):St:=ah [(1,xb 1),(4,xo 1000256),(5,xo 1000320),(7,xo 1000448),(16,xi d),(17,xi e)] [(1,(27,[yi f,yi g,.sn 3 tI h none]))] [(1000256,(⟨22,.sl 3 tI,a,true,false⟩:ae)),(1000320,(⟨4,.bool,b,true,false⟩:ae)),(1000448,(⟨3,.int .i64,c,true,false⟩:ae))]
def f76l15:ab:=⟨[1,4,5,7,16,17],[1],[],[],[(⟨false,4,0⟩,1000256),(⟨false,5,0⟩,1000320),(⟨false,7,0⟩,1000448)]⟩
def mo(a:LL)(b:List Bool)(c:LI)(d e f g h:Int)(i:LI):St:=ah [(1,xb 1),(4,xo 1000256),(5,xo 1000320),(7,xo 1000448),(8,xi d),(16,xi e),(17,xi f)] [(1,(27,[yi g,yi h,.sn 3 tI i none]))] [(1000256,(⟨22,.sl 3 tI,a,true,false⟩:ae)),(1000320,(⟨4,.bool,b,true,false⟩:ae)),(1000448,(⟨3,.int .i64,c,true,false⟩:ae))]
def vY:ab:=⟨[1,4,5,7,8,16,17],[1],[],[],[(⟨false,4,0⟩,1000256),(⟨false,5,0⟩,1000320),(⟨false,7,0⟩,1000448)]⟩
def jo(a:LL)(b:List Bool)(c:LI)(d e f g h i:Int)(j:LI):St:=ah [(1,xb 1),(4,xo 1000256),(5,xo 1000320),(7,xo 1000448),(8,xi d),(9,xi e),(16,xi f),(17,xi g)] [(1,(27,[yi h,yi i,.sn 3 tI j none]))] [(1000256,(⟨22,.sl 3 tI,a,true,false⟩:ae)),(1000320,(⟨4,.bool,b,true,false⟩:ae)),(1000448,(⟨3,.int .i64,c,true,false⟩:ae))]
def mq:ab:=⟨[1,4,5,7,8,9,16,17],[1],[],[],[(⟨false,4,0⟩,1000256),(⟨false,5,0⟩,1000320),(⟨false,7,0⟩,1000448)]⟩
def vZ(a:LL)(b:List Bool)(c d:LI)(e f g h i j l m:Int)(o:LI):St:=ah [(1,xb 1),(4,xo 1000256),(5,xo 1000320),(7,xo 1000448),(8,xi e),(9,xi f),(16,xi g),(17,xi h),(40,xo 1002560),(41,xi i),(42,xi j)] [(1,(27,[yi l,yi m,.sn 3 tI o none]))] [(1000256,(⟨22,.sl 3 tI,a,true,false⟩:ae)),(1000320,(⟨4,.bool,b,true,false⟩:ae)),(1000448,(⟨3,.int .i64,c,true,false⟩:ae)),(1002560,(⟨3,.int .i64,d,true,false⟩:ae))]
def JX:ab:=⟨[1,4,5,7,8,9,16,17,40,41,42],[1],[],[],[(⟨false,4,0⟩,1000256),(⟨false,5,0⟩,1000320),(⟨false,7,0⟩,1000448),(⟨false,40,0⟩,1002560)]⟩
def pY(a:LL):St:=ah [(4,xo 1000256)] [] [(1000256,(⟨22,.sl 3 tI,a,true,false⟩:ae))]
def Bm:ab:=⟨[4],[],[],[],[(⟨false,4,0⟩,1000256)]⟩
def mr(a:LL)(b:Bool):St:=ah [(2,xo 1000128),(3,xB b)] [] [(1000128,(⟨22,.sl 3 tI,a,true,false⟩:ae))]
def f76l20:ab:=⟨[2,3],[],[⟨⟨false,2,0⟩,30000000,22,.sl 3 (.int .i64),true⟩],[],[(⟨false,2,0⟩,1000128)]⟩
def f76B:Nat->Option ab:=aA [(4,mq),(3,mq),(2,vY),(1,vX),(0,Bm),(1000000,f76l20)]
abbrev fv{J:Type}(N n:Nat)(V:St)(l:ab)(K:KT J):Option J:=am JP bg f76B N (aZ 99 (bm Tryz.f76) n) .n V (az (some l) K)
def f76t1 N a (K:KT J):fv N 2 (f76s0 a) f76l1 K =
 bw.Z1 N a (λb c d=>K .nrm (JQ b c d)):=by kernel_rfl
def f76t3 N a b c (K:KT J):fv N 5 (JQ a b c) f76l2 K =
 bw.Z3 N a b c (λa b c=>K .nrm (JR a b c)):=by kernel_rfl
def f76t5 N a b c (K:KT J):fv N 11 (JR a b c) f76l3 K =
 bw.Z5 N a b c (λd a b c=>K .nrm (JS d a b c)):=by kernel_rfl
def f76t8 N a b c d (K:KT J):fv N 39 (JS a b c d) f76l4 K =
 bw.Z8 N a b c d (λa e f b c d=>K .nrm (JT a e f b c d)):=by kernel_rfl
def f76t12 N a b c d e f g (K:KT J):fv N 279 (JU a b c d e f g) f76l13 K =
 bw.Z12 N a b c d e f g (λa b c d h e f g=>K .nrm (JV a b c d h e f g)):=by kernel_rfl
def f76t14 N a b c d h e f g (K:KT J):fv N 663 (JV a b c d h e f g) vX K =
 bw.Z14 N a b c d h e f g (λa b c d e f g=>K .nrm (nR a b c d e f g)) (λa=>K (.exit 0) (pY a)):=by kernel_rfl
def f76t18 N a b c d e f g (K:KT J):fv N 4503 (nR a b c d e f g) Bl K =
 bw.Z18 N a b c d e f g (λa b h c d e f g=>K .nrm (pX a b h c d e f g)):=by kernel_rfl
def f76t20 N a b h c d e f g (K:KT J):fv N 10647 (pX a b h c d e f g) Bl K =
 bw.Z20 N a b h c d e f g (λa b h c d e f g=>K .nrm (pX a b h c d e f g)) (λa b c d e f g=>K (.exit 1) (nR a b c d e f g)):=by kernel_rfl
def f76t22 N a b c d e f g h (K:KT J):fv N 22935 (pX a b c d e f g h) Bl K =
 bw.Z22 N a b c d e f g h (λa b c d e f g h=>K .nrm (pX a b c d e f g h)):=by kernel_rfl
def f76t24 N a b h c d e f g (K:KT J):fv N 47511 (pX a b h c d e f g) f76l15 K =
 bw.Z24 N a b h c d e f g (λa b i c d e f g=>K .nrm (JW a b i c d e f g)):=by kernel_rfl
def f76t26 N a b c d e f g h (K:KT J):fv N 96663 (JW a b c d e f g h) vY K =
 bw.Z26 N a b c d e f g h (λa b c i d e f g h=>K .nrm (mo a b c i d e f g h)):=by kernel_rfl
def f76t29 N a b c d e f g h i (K:KT J):fv N 326039 (mo a b c d e f g h i) mq K =
 bw.Z29 N a b c d e f g h i (λa b c d j e f g h i=>K .nrm (jo a b c d j e f g h i)):=by kernel_rfl
def f76t33 N a b c d j e f g h i (K:KT J):fv N 2292119 (jo a b c d j e f g h i) mq K =
 bw.Z33 N a b c d j e f g h i (λa b c d j e f g h i=>K .nrm (jo a b c d j e f g h i)) (λa b c d e f g h i=>K (.exit 2) (mo a b c d e f g h i)):=by kernel_rfl
def f76t37 N a b c d e f g h i j (K:KT J):fv N 18020759 (jo a b c d e f g h i j) JX K =
 bw.Z37 N a b c d e f g h i j (λa b c l d e f g m o h i j=>K .nrm (vZ a b c l d e f g m o h i j)):=by kernel_rfl
def f76t40 N a b c l d e f g m o h i j (K:KT J):fv N 76741015 (vZ a b c l d e f g m o h i j) JX K =
 bw.Z40 N a b c l d e f g m o h i j (λa b c l d e f g m o h i j=>K .nrm (vZ a b c l d e f g m o h i j)) (λa b c d e f g h i j=>K (.exit 4) (jo a b c d e f g h i j)):=by kernel_rfl
def f76t39L N (K:KT J):=rb K (bw.Z39L N (λa b c d e f g h i j=>K (.exit 4) (jo a b c d e f g h i j))) (λa b c l d e f g m o h i j k=>bw.Z40 N a b c l d e f g m o h i j k (λa b c d e f g h i j=>K (.exit 4) (jo a b c d e f g h i j))) (λF a b c l d e f g m o h i j=>f76t40 N a b c l d e f g m o h i j _) (by kernel_rfl)
def f76t39 N a b c d e f g h i j l m o (K:KT J):=vL (vZ a b c d e f g h i j l m o) (f76t39L N (jK mq K) N a b c d e f g h i j l m o) (by kernel_rfl)
def f76t38 N a b c l d e f g m o h i j (K:KT J):=vB 4 mq K (bw.Z38 N a b c l d e f g m o h i j (λa b c d e f g h i j=>K .nrm (jo a b c d e f g h i j))) (f76t39 N a b c l d e f g m o h i j _) (by kernel_rfl)
def f76t36 N a b c d e f g h i j (K:KT J):=vQ (λk=>bw.Z37 N a b c d e f g h i j k) (f76t37 N a b c d e f g h i j _) (nk λa b c l d e f g m o h i j=>f76t38 N a b c l d e f g m o h i j K)
def f76t35 N a b c d e f g h i j (K:KT J):=vB 3 mq K (bw.Z35 N a b c d e f g h i j (λa b c d e f g h i j=>K .nrm (jo a b c d e f g h i j))) (f76t36 N a b c d e f g h i j _) (by kernel_rfl)
def f76t41 N a b c d e f g h i j (K:KT J):fv N 7534999 (jo a b c d e f g h i j) mq K =
 bw.Z41 N a b c d e f g h i j (λa b c d e f g h i j=>K .nrm (jo a b c d e f g h i j)):=by kernel_rfl
def f76t34 N a b c d e f g h i j (K:KT J):=vQ (λk=>bw.Z35 N a b c d e f g h i j k) (f76t35 N a b c d e f g h i j _) (dz λa b c d e f g h i j=>f76t41 N a b c d e f g h i j K)
def f76t32 N a b c d j e f g h i (K:KT J):=vQ (λk=>bw.Z33 N a b c d j e f g h i k (λa b c d e f g h i=>K (.exit 2) (mo a b c d e f g h i))) (f76t33 N a b c d j e f g h i _) (dz λa b c d j e f g h i=>f76t34 N a b c d j e f g h i K)
def f76t31L N (K:KT J):=kH K (bw.Z31L N (λa b c d e f g h i=>K (.exit 2) (mo a b c d e f g h i))) (λa b c d j e f g h i k=>bw.Z32 N a b c d j e f g h i k (λa b c d e f g h i=>K (.exit 2) (mo a b c d e f g h i))) (λF a b c d j e f g h i=>f76t32 N a b c d j e f g h i _) (by kernel_rfl)
def f76t31 N a b c d e f g h i j (K:KT J):=vL (jo a b c d e f g h i j) (f76t31L N (jK vY K) N a b c d e f g h i j) (by kernel_rfl)
def f76t30 N a b c d j e f g h i (K:KT J):=vB 2 vY K (bw.Z30 N a b c d j e f g h i (λa b c d e f g h i=>K .nrm (mo a b c d e f g h i))) (f76t31 N a b c d j e f g h i _) (by kernel_rfl)
def f76t28 N a b c d e f g h i (K:KT J):=vQ (λk=>bw.Z29 N a b c d e f g h i k) (f76t29 N a b c d e f g h i _) (dz λa b c d j e f g h i=>f76t30 N a b c d j e f g h i K)
def f76t42 N a b h i c d e f g (K:KT J):fv N 260503 (mo a b h i c d e f g) vX K =
 bw.Z42 N a b h i c d e f g (λa b c d e f g=>K .nrm (nR a b c d e f g)) (λj l=>K .ret (mr j l)):=by kernel_rfl
def f76t27 N a b c d e f g h i (K:KT J):=vQ (λk=>bw.Z28 N a b c d e f g h i k) (f76t28 N a b c d e f g h i _) (ee λa b c d e f g h i=>f76t42 N a b c d e f g h i K)
def f76t25 N a b c d e f g h (K:KT J):=vQ (λk=>bw.Z26 N a b c d e f g h k) (f76t26 N a b c d e f g h _) (ee λa b c i d e f g h=>f76t27 N a b c i d e f g h K)
def f76t23 N a b h c d e f g (K:KT J):=vQ (λk=>bw.Z24 N a b h c d e f g k) (f76t24 N a b h c d e f g _) (dy λa b i c d e f g=>f76t25 N a b i c d e f g K)
def f76t21 N a b c d e f g h (K:KT J):=vQ (λk=>bw.Z22 N a b c d e f g h k) (f76t22 N a b c d e f g h _) (dy λa b c d e f g h=>f76t23 N a b c d e f g h K)
def f76t19 N a b h c d e f g (K:KT J):=vQ (λk=>bw.Z20 N a b h c d e f g k (λa b c d e f g=>K (.exit 1) (nR a b c d e f g))) (f76t20 N a b h c d e f g _) (dy λa b h c d e f g=>f76t21 N a b h c d e f g K)
def f76t17 N a b c d e f g (K:KT J):=vQ (λk=>bw.Z18 N a b c d e f g k) (f76t18 N a b c d e f g _) (dy λa b h c d e f g=>f76t19 N a b h c d e f g K)
def f76t16 N a b c d e f g (K:KT J):=vB 1 vX K (bw.Z16 N a b c d e f g (λa b c d e f g=>K .nrm (nR a b c d e f g)) (λh i=>K .ret (mr h i))) (f76t17 N a b c d e f g _) (by kernel_rfl)
def f76t43 N a b c d e f g (K:KT J):fv N 1943 (nR a b c d e f g) f76l11 K =
 bw.Z43 N a b c d e f g (λa b c d e f g=>K .nrm (JU a b c d e f g)):=by kernel_rfl
def f76t15 N a b c d e f g (K:KT J):=vQ (λk=>bw.Z16 N a b c d e f g k (λh i=>K .ret (mr h i))) (f76t16 N a b c d e f g _) (fa λa b c d e f g=>f76t43 N a b c d e f g K)
def f76t13 N a b c d h e f g (K:KT J):=vQ (λk=>bw.Z14 N a b c d h e f g k (λa=>K (.exit 0) (pY a))) (f76t14 N a b c d h e f g _) (fa λa b c d e f g=>f76t15 N a b c d e f g K)
def f76t11 N a b c d e f g (K:KT J):=vQ (λk=>bw.Z12 N a b c d e f g k) (f76t12 N a b c d e f g _) (dy λa b c d h e f g=>f76t13 N a b c d h e f g K)
def f76t10L N (K:KT J):=nn K (bw.Z10L N (λa=>K (.exit 0) (pY a)) (λb c=>K .ret (mr b c))) (λa d e f g h i k=>bw.Z11 N a d e f g h i k (λa=>K (.exit 0) (pY a)) (λb c=>K .ret (mr b c))) (λF a d e f g h i=>f76t11 N a d e f g h i _) (by kernel_rfl)
def f76t10 N a b c d e f (K:KT J):=vL (JT a b c d e f) (f76t10L N (jK Bm K) N ([]:List (LI)) a b c d e f) (by kernel_rfl)
def f76t9 N a b c d e f (K:KT J):=vB 0 Bm K (bw.Z9 N a b c d e f (λg=>K .nrm (pY g)) (λh i=>K .ret (mr h i))) (f76t10 N a b c d e f _) (by kernel_rfl)
def f76t7 N a b c d (K:KT J):=vQ (λk=>bw.Z8 N a b c d k) (f76t8 N a b c d _) (cN λa e f b c d=>f76t9 N a e f b c d K)
def f76t44 N a (K:KT J):fv N 31 (pY a) f76lE K =
 bw.Z44 N a (λb c=>K .ret (mr b c)):=by kernel_rfl
def f76t6 N a b c d (K:KT J):=vQ (λk=>bw.Z7 N a b c d k (λe f=>K .ret (mr e f))) (f76t7 N a b c d _) (funext λg=>f76t44 N g K)
def f76t4 N a b c (K:KT J):=vQ (λk=>bw.Z5 N a b c k) (f76t5 N a b c _) (eO λd a b c=>f76t6 N d a b c K)
def f76t2 N a b c (K:KT J):=vQ (λk=>bw.Z3 N a b c k) (f76t3 N a b c _) (cW λa b c=>f76t4 N a b c K)
def f76t0 N a (K:KT J):=vQ (λk=>bw.Z1 N a k) (f76t1 N a _) (cW λb c d=>f76t2 N b c d K)
def f76ok(h:bw.Spec):ay Tryz.prog 76 Bk :=
 bI Tryz.func76 bu f76GOk (λN X K=>f76t0 N X.1 K) (by kernel_rfl) λX hb hp=>by obtain⟨a,_⟩:=X;obtain⟨N,h⟩:=h a hb.1 hp;exact⟨N,Eq.trans (by kernel_rfl) (h N (Nat.le_refl N))⟩
def e76ok:ay Tryz.prog 76 Bk:=f76ok bw.ok
def JY:bc:=⟨[⟨.pair (.int .i64) (.pair (.int .i64) (.sl 3 (.int .i64))),true,false⟩],[⟨.sl 22 (.sl 3 (.int .i64)),false,false⟩]⟩
def v7:aQ:=⟨JY,none,λX=>((),((cn.g X.1),()))⟩
def JZ:Gm:=aK (aK be 63 mb) 83 l7
def f37GOk:av Tryz.prog JZ:=((av.nil).add pM (by kernel_rfl)).add pH (by kernel_rfl)
def f37lE:ab:=⟨[],[],[],[],[]⟩
def f37s0(a:MT):St:=bA JY.ps (a,())
def v8(a b:Int)(c:LI):St:=ah [(1,xb 1)] [(1,(27,[yi a,yi b,.sn 3 tI c none]))] []
def J0:ab:=⟨[1],[1],[],[],[]⟩
def J1(a b:Int)(d:LI):St:=ah [(1,xb 1),(3,.c (.nil))] [(1,(27,[yi a,yi b,.sn 3 tI d none]))] []
def f37l2:ab:=⟨[1,3],[1],[],[],[]⟩
def J2(a b d:Int)(e:LI):St:=ah [(1,xb 1),(3,.c (.nil)),(4,xi a)] [(1,(27,[yi b,yi d,.sn 3 tI e none]))] []
def f37l3:ab:=⟨[1,3,4],[1],[],[],[]⟩
def sB(a:LL)(b c d:Int)(e:LI):St:=ah [(1,xb 1),(3,xo 1000192),(4,xi b)] [(1,(27,[yi c,yi d,.sn 3 tI e none]))] [(1000192,(⟨22,.sl 3 tI,a,true,false⟩:ae))]
def wb:ab:=⟨[1,3,4],[1],[],[],[(⟨false,3,0⟩,1000192)]⟩
def J3(a:LL)(b c d:Int)(e:LI):St:=ah [(1,xb 1),(3,xo 1000192),(4,xi b)] [(1,(27,[yi c,yi d,.sn 3 tI e none]))] [(1000192,(⟨22,.sl 3 tI,a,true,false⟩:ae))]
def f37l9:ab:=⟨[1,3,4],[1],[⟨⟨false,3,0⟩,30000000,22,.sl 3 (.int .i64),true⟩],[],[(⟨false,3,0⟩,1000192)]⟩
def J4(a:LL)(b d e:Int)(f:LI):St:=ah [(1,xb 1),(3,xo 1000192),(4,xi b),(5,.c (.nil))] [(1,(27,[yi d,yi e,.sn 3 tI f none]))] [(1000192,(⟨22,.sl 3 tI,a,true,false⟩:ae))]
def f37l10:ab:=⟨[1,3,4,5],[1],[],[],[(⟨false,3,0⟩,1000192)]⟩
def J5(a:LL)(b d e f:Int)(g:LI):St:=ah [(1,xb 1),(3,xo 1000192),(4,xi b),(5,.c (.nil)),(6,xi d)] [(1,(27,[yi e,yi f,.sn 3 tI g none]))] [(1000192,(⟨22,.sl 3 tI,a,true,false⟩:ae))]
def f37l11:ab:=⟨[1,3,4,5,6],[1],[],[],[(⟨false,3,0⟩,1000192)]⟩
def J6(a:LL)(b:LI)(c d e f:Int)(g:LI):St:=ah [(1,xb 1),(3,xo 1000192),(4,xi c),(5,xo 1000320),(6,xi d)] [(1,(27,[yi e,yi f,.sn 3 tI g none]))] [(1000192,(⟨22,.sl 3 tI,a,true,false⟩:ae)),(1000320,(⟨3,.int .i64,b,true,false⟩:ae))]
def f37l12:ab:=⟨[1,3,4,5,6],[1],[⟨⟨false,5,0⟩,30000000,3,.int .i64,true⟩],[],[(⟨false,3,0⟩,1000192),(⟨false,5,0⟩,1000320)]⟩
def sC(a:LL)(b:LI)(c d e:Int)(f:LI):St:=ah [(1,xb 1),(3,xo 1000192),(4,xi c),(5,xo 1000320)] [(1,(27,[yi d,yi e,.sn 3 tI f none]))] [(1000192,(⟨22,.sl 3 tI,a,true,false⟩:ae)),(1000320,(⟨3,.int .i64,b,true,false⟩:ae))]
def Bn:ab:=⟨[1,3,4,5],[1],[],[],[(⟨false,3,0⟩,1000192),(⟨false,5,0⟩,1000320)]⟩
def pZ(a:LL):St:=ah [(3,xo 1000192)] [] [(1000192,(⟨22,.sl 3 tI,a,true,false⟩:ae))]
def Bo:ab:=⟨[3],[],[],[],[(⟨false,3,0⟩,1000192)]⟩
def Bp(a:LL):St:=ah [(2,xo 1000128)] [] [(1000128,(⟨22,.sl 3 tI,a,true,false⟩:ae))]
def f37l15:ab:=⟨[2],[],[⟨⟨false,2,0⟩,30000000,22,.sl 3 (.int .i64),true⟩],[],[(⟨false,2,0⟩,1000128)]⟩
def f37B:Nat->Option ab:=aA [(2,Bn),(1,wb),(0,Bo),(1000000,f37l15)]
abbrev jQ{J:Type}(N n:Nat)(V:St)(l:ab)(K:KT J):Option J:=am JZ bg f37B N (aZ 99 (bm Tryz.f37) n) .n V (az (some l) K)
def f37t1 N a (K:KT J):jQ N 2 (f37s0 a) J0 K =
 cn.Z1 N a (λb c d=>K .nrm (v8 b c d)):=by kernel_rfl
def f37t3 N a b c (K:KT J):jQ N 5 (v8 a b c) J0 K =
 cn.Z3 N a b c (λa b c=>K .nrm (v8 a b c)) (λd=>K .ret (Bp d)):=by kernel_rfl
def f37t5 N a b c (K:KT J):jQ N 11 (v8 a b c) f37l2 K =
 cn.Z5 N a b c (λa b c=>K .nrm (J1 a b c)):=by kernel_rfl
def f37t8 N a b c (K:KT J):jQ N 39 (J1 a b c) f37l3 K =
 cn.Z8 N a b c (λd a b c=>K .nrm (J2 d a b c)):=by kernel_rfl
def f37t12 N a b c d e (K:KT J):jQ N 279 (J3 a b c d e) wb K =
 cn.Z12 N a b c d e (λa b c d e=>K .nrm (sB a b c d e)) (λa=>K (.exit 0) (pZ a)):=by kernel_rfl
def f37t16 N a b c d e (K:KT J):jQ N 2199 (sB a b c d e) f37l10 K =
 cn.Z16 N a b c d e (λa b c d e=>K .nrm (J4 a b c d e)):=by kernel_rfl
def f37t19 N a b c d e (K:KT J):jQ N 9367 (J4 a b c d e) f37l11 K =
 cn.Z19 N a b c d e (λa b f c d e=>K .nrm (J5 a b f c d e)):=by kernel_rfl
def f37t22 N a b c g d e f (K:KT J):jQ N 38039 (J6 a b c g d e f) f37l12 K =
 cn.Z22 N a b c g d e f (λa b c g d e f=>K .nrm (J6 a b c g d e f)) (λa b c d e f=>K (.exit 2) (sC a b c d e f)):=by kernel_rfl
def f37t21L N (K:KT J):=nn K (cn.Z21L N (λa b c d e f=>K (.exit 2) (sC a b c d e f))) (λa b c g d e f k=>cn.Z22 N a b c g d e f k (λa b c d e f=>K (.exit 2) (sC a b c d e f))) (λF a b c g d e f=>f37t22 N a b c g d e f _) (by kernel_rfl)
def f37t21 N a b c d e f (K:KT J):=vL (J5 a b c d e f) (f37t21L N (jK Bn K) N a ([]:List Int) b c d e f) (by kernel_rfl)
def f37t20 N a b f c d e (K:KT J):=vB 2 Bn K (cn.Z20 N a b f c d e (λa g b c d e=>K .nrm (sC a g b c d e))) (f37t21 N a b f c d e _) (by kernel_rfl)
def f37t18 N a b c d e (K:KT J):=vQ (λk=>cn.Z19 N a b c d e k) (f37t19 N a b c d e _) (cN λa b f c d e=>f37t20 N a b f c d e K)
def f37t23 N a f b c d e (K:KT J):jQ N 7319 (sC a f b c d e) wb K =
 cn.Z23 N a f b c d e (λa b c d e=>K .nrm (sB a b c d e)):=by kernel_rfl
def f37t17 N a b c d e (K:KT J):=vQ (λk=>cn.Z18 N a b c d e k) (f37t18 N a b c d e _) (cN λa f b c d e=>f37t23 N a f b c d e K)
def f37t15 N a b c d e (K:KT J):=vQ (λk=>cn.Z16 N a b c d e k) (f37t16 N a b c d e _) (cH λa b c d e=>f37t17 N a b c d e K)
def f37t14 N a b c d e (K:KT J):=vB 1 wb K (cn.Z14 N a b c d e (λa b c d e=>K .nrm (sB a b c d e))) (f37t15 N a b c d e _) (by kernel_rfl)
def f37t24 N a b c d e (K:KT J):jQ N 919 (sB a b c d e) f37l9 K =
 cn.Z24 N a b c d e (λa b c d e=>K .nrm (J3 a b c d e)):=by kernel_rfl
def f37t13 N a b c d e (K:KT J):=vQ (λk=>cn.Z14 N a b c d e k) (f37t14 N a b c d e _) (cH λa b c d e=>f37t24 N a b c d e K)
def f37t11 N a b c d e (K:KT J):=vQ (λk=>cn.Z12 N a b c d e k (λa=>K (.exit 0) (pZ a))) (f37t12 N a b c d e _) (cH λa b c d e=>f37t13 N a b c d e K)
def f37t10L N (K:KT J):=lE K (cn.Z10L N (λa=>K (.exit 0) (pZ a))) (λa b c d e k=>cn.Z11 N a b c d e k (λa=>K (.exit 0) (pZ a))) (λF a b c d e=>f37t11 N a b c d e _) (by kernel_rfl)
def f37t10 N a b c d (K:KT J):=vL (J2 a b c d) (f37t10L N (jK Bo K) N ([]:List (LI)) a b c d) (by kernel_rfl)
def f37t9 N a b c d (K:KT J):=vB 0 Bo K (cn.Z9 N a b c d (λe=>K .nrm (pZ e))) (f37t10 N a b c d _) (by kernel_rfl)
def f37t7 N a b c (K:KT J):=vQ (λk=>cn.Z8 N a b c k) (f37t8 N a b c _) (eO λd a b c=>f37t9 N d a b c K)
def f37t25 N a (K:KT J):jQ N 31 (pZ a) f37lE K =
 cn.Z25 N a (λb=>K .ret (Bp b)):=by kernel_rfl
def f37t6 N a b c (K:KT J):=vQ (λk=>cn.Z7 N a b c k) (f37t7 N a b c _) (funext λd=>f37t25 N d K)
def f37t4 N a b c (K:KT J):=vQ (λk=>cn.Z5 N a b c k) (f37t5 N a b c _) (cW λa b c=>f37t6 N a b c K)
def f37t2 N a b c (K:KT J):=vQ (λk=>cn.Z3 N a b c k (λd=>K .ret (Bp d))) (f37t3 N a b c _) (cW λa b c=>f37t4 N a b c K)
def f37t0 N a (K:KT J):=vQ (λk=>cn.Z1 N a k) (f37t1 N a _) (cW λb c d=>f37t2 N b c d K)
def f37ok(h:cn.Spec):ay Tryz.prog 37 v7 :=
 bI Tryz.func37 bu f37GOk (λN X K=>f37t0 N X.1 K) (by kernel_rfl) λX hb hp=>by obtain⟨a,_⟩:=X;obtain⟨N,h⟩:=h a hb.1;exact⟨N,Eq.trans (by kernel_rfl) (h N (Nat.le_refl N))⟩
def J7:ay Tryz.prog 37 v7:=f37ok cn.ok
def J8:bc:=⟨[⟨.pair (.int .i64) (.pair (.int .i64) (.sl 3 (.int .i64))),true,false⟩,⟨.sl 3 (.int .i64),false,false⟩],[⟨.str,false,false⟩]⟩
def Bq:aQ:=⟨J8,(some λX=>bX.P X.1 X.2.1),λX=>((),((bX.g X.1 X.2.1),()))⟩
def J9:Gm:=aK (aK (aK be 37 v7) 90 vO) 110 vW
def f77GOk:av Tryz.prog J9:=(((av.nil).add J7 (by kernel_rfl)).add Jf (by kernel_rfl)).add JN (by kernel_rfl)
def f77lE:ab:=⟨[],[],[],[],[]⟩
def f77s0(a:MT)(b:LI):St:=bA J8.ps (a,(b,()))
def Ka(a:LI)(b d:Int)(e:LI):St:=ah [(1,.c (.sn 3 tI a none)),(2,xb 2)] [(2,(27,[yi b,yi d,.sn 3 tI e none]))] []
def f77l1:ab:=⟨[1,2],[2],[],[],[]⟩
def Kb(a:LL)(b:LI)(d e:Int)(f:LI):St:=ah [(1,.c (.sn 3 tI b none)),(2,xb 2),(5,xo 1000320)] [(2,(27,[yi d,yi e,.sn 3 tI f none]))] [(1000320,(⟨22,.sl 3 tI,a,true,false⟩:ae))]
def f77l2:ab:=⟨[1,2,5],[2],[],[],[(⟨false,5,0⟩,1000320)]⟩
def nS(a:LL)(b:LI)(d:ByteArray)(e f:Int)(g:LI):St:=ah [(1,.c (.sn 3 tI b none)),(2,xb 2),(5,xo 1000320),(6,.c (.str d))] [(2,(27,[yi e,yi f,.sn 3 tI g none]))] [(1000320,(⟨22,.sl 3 tI,a,true,false⟩:ae))]
def wd:ab:=⟨[1,2,5,6],[2],[],[],[(⟨false,5,0⟩,1000320)]⟩
def we(a:LL)(b:LI)(d:ByteArray)(e:LI)(f g h i:Int)(j:LI):St:=ah [(1,.c (.sn 3 tI b none)),(2,xb 2),(5,xo 1000320),(6,.c (.str d)),(15,.c (.sn 3 tI e none)),(16,xi f),(17,xi g)] [(2,(27,[yi h,yi i,.sn 3 tI j none]))] [(1000320,(⟨22,.sl 3 tI,a,true,false⟩:ae))]
def Kc:ab:=⟨[1,2,5,6,15,16,17],[2],[],[],[(⟨false,5,0⟩,1000320)]⟩
def jp(a:LL)(b:LI)(d:ByteArray)(e:LI)(f g h i:Int)(j:LI):St:=ah [(1,.c (.sn 3 tI b none)),(2,xb 2),(5,xo 1000320),(6,.c (.str d)),(31,.c (.sn 3 tI e none)),(32,xi f),(33,xi g)] [(2,(27,[yi h,yi i,.sn 3 tI j none]))] [(1000320,(⟨22,.sl 3 tI,a,true,false⟩:ae))]
def mt:ab:=⟨[1,2,5,6,31,32,33],[2],[],[],[(⟨false,5,0⟩,1000320)]⟩
def Kd(a:LL)(b:LI)(d:ByteArray)(e:LI)(f g:Int)(h:Bool)(i j:Int)(l:LI):St:=ah [(1,.c (.sn 3 tI b none)),(2,xb 2),(5,xo 1000320),(6,.c (.str d)),(31,.c (.sn 3 tI e none)),(32,xi f),(33,xi g),(34,xB h)] [(2,(27,[yi i,yi j,.sn 3 tI l none]))] [(1000320,(⟨22,.sl 3 tI,a,true,false⟩:ae))]
def f77l6:ab:=⟨[1,2,5,6,31,32,33,34],[2],[],[],[(⟨false,5,0⟩,1000320)]⟩
def Ke(a:LL)(b:LI)(d:ByteArray)(e:Int)(f:LI)(g h i j:Int)(l:LI):St:=ah [(1,.c (.sn 3 tI b none)),(2,xb 2),(5,xo 1000320),(6,.c (.str d)),(10,xi e),(31,.c (.sn 3 tI f none)),(32,xi g),(33,xi h)] [(2,(27,[yi i,yi j,.sn 3 tI l none]))] [(1000320,(⟨22,.sl 3 tI,a,true,false⟩:ae))]
def f77l7:ab:=⟨[1,2,5,6,10,31,32,33],[2],[],[],[(⟨false,5,0⟩,1000320)]⟩
def wg(a:LL)(b d:LI)(e:ByteArray)(f:Int)(g:LI)(h i j l m o:Int)(p:LI):St:=ah [(1,.c (.sn 3 tI d none)),(2,xb 2),(5,xo 1000320),(6,.c (.str e)),(10,xi f),(31,.c (.sn 3 tI g none)),(32,xi h),(33,xi i),(39,xo 1002496),(40,xi j),(41,xi l)] [(2,(27,[yi m,yi o,.sn 3 tI p none]))] [(1000320,(⟨22,.sl 3 tI,a,true,false⟩:ae)),(1002496,(⟨3,.int .i64,b,true,false⟩:ae))]
def Kf:ab:=⟨[1,2,5,6,10,31,32,33,39,40,41],[2],[],[],[(⟨false,5,0⟩,1000320),(⟨false,39,0⟩,1002496)]⟩
def p5(a:LI)(b:ByteArray):St:=ah [(1,.c (.sn 3 tI a none)),(6,.c (.str b))] [] []
def Br:ab:=⟨[1,6],[],[],[],[]⟩
def p6(a:ByteArray):St:=ah [(4,.c (.str a))] [] []
def f77l10:ab:=⟨[4],[],[],[],[]⟩
def f77B:Nat->Option ab:=aA [(0,wd),(4,mt),(3,mt),(2,Br),(1000000,f77l10)]
abbrev iK{J:Type}(N n:Nat)(V:St)(l:ab)(K:KT J):Option J:=am J9 bg f77B N (aZ 99 (bm Tryz.f77) n) .n V (az (some l) K)
def f77t1 N b a (K:KT J):iK N 2 (f77s0 b a) f77l1 K =
 bX.Z1 N b a (λa c d e=>K .nrm (Ka a c d e)):=by kernel_rfl
def f77t3 N a b c d (K:KT J):iK N 5 (Ka a b c d) f77l2 K =
 bX.Z3 N a b c d (λe a b c d=>K .nrm (Kb e a b c d)):=by kernel_rfl
def f77t5 N a b c d e (K:KT J):iK N 11 (Kb a b c d e) wd K =
 bX.Z5 N a b c d e (λa b f c d e=>K .nrm (nS a b f c d e)):=by kernel_rfl
def f77t8 N a b c d e f (K:KT J):iK N 39 (nS a b c d e f) Kc K =
 bX.Z8 N a b c d e f (λa b c g h i d e f=>K .nrm (we a b c g h i d e f)):=by kernel_rfl
def f77t11 N a b c g h i d e f (K:KT J):iK N 151 (we a b c g h i d e f) Kc K =
 bX.Z11 N a b c g h i d e f (λa b c g h i d e f=>K .nrm (we a b c g h i d e f)) (λa b c d e f=>K (.exit 0) (nS a b c d e f)) (λj=>K .ret (p6 j)):=by kernel_rfl
def f77t10L N (K:KT J):=q8 K (bX.Z10L N (λa b c d e f=>K (.exit 0) (nS a b c d e f)) (λg=>K .ret (p6 g))) (λa b c h i j d e f k=>bX.Z11 N a b c h i j d e f k (λa b c d e f=>K (.exit 0) (nS a b c d e f)) (λg=>K .ret (p6 g))) (λF a b c h i j d e f=>f77t11 N a b c h i j d e f _) (by kernel_rfl)
def f77t10 N a b c d e f g h i (K:KT J):=vL (we a b c d e f g h i) (f77t10L N (jK wd K) N a b c d e f g h i) (by kernel_rfl)
def f77t9 N a b c g h i d e f (K:KT J):=vB 0 wd K (bX.Z9 N a b c g h i d e f (λa b c d e f=>K .nrm (nS a b c d e f)) (λj=>K .ret (p6 j))) (f77t10 N a b c g h i d e f _) (by kernel_rfl)
def f77t7 N a b c d e f (K:KT J):=vQ (λk=>bX.Z8 N a b c d e f k) (f77t8 N a b c d e f _) (ee λa b c g h i d e f=>f77t9 N a b c g h i d e f K)
def f77t14 N a b c d e f (K:KT J):iK N 79 (nS a b c d e f) mt K =
 bX.Z14 N a b c d e f (λa b c g h i d e f=>K .nrm (jp a b c g h i d e f)):=by kernel_rfl
def f77t18 N a b c d e f g h i (K:KT J):iK N 559 (jp a b c d e f g h i) f77l6 K =
 bX.Z18 N a b c d e f g h i (λa b c d e f j g h i=>K .nrm (Kd a b c d e f j g h i)):=by kernel_rfl
def f77t20 N c a b d e f j g h i (K:KT J):iK N 1327 (Kd c a b d e f j g h i) mt K =
 bX.Z20 N c a b d e f j g h i (λc a b d e f g h i=>K .nrm (jp c a b d e f g h i)) (λa b=>K (.exit 2) (p5 a b)):=by kernel_rfl
def f77t24 N a b c d e f g h i (K:KT J):iK N 9007 (jp a b c d e f g h i) f77l7 K =
 bX.Z24 N a b c d e f g h i (λa b c j d e f g h i=>K .nrm (Ke a b c j d e f g h i)):=by kernel_rfl
def f77t26 N a b c d e f g h i j (K:KT J):iK N 21295 (Ke a b c d e f g h i j) Kf K =
 bX.Z26 N a b c d e f g h i j (λa l b c d e f g m o h i j=>K .nrm (wg a l b c d e f g m o h i j)):=by kernel_rfl
def f77t29 N a j b c l d e f m o g h i (K:KT J):iK N 78639 (wg a j b c l d e f m o g h i) Kf K =
 bX.Z29 N a j b c l d e f m o g h i (λa j b c l d e f m o g h i=>K .nrm (wg a j b c l d e f m o g h i)) (λa b c d e f g h i=>K (.exit 4) (jp a b c d e f g h i)):=by kernel_rfl
def f77t28L N (K:KT J):=rb K (bX.Z28L N (λa b c d e f g h i=>K (.exit 4) (jp a b c d e f g h i))) (λa j b c l d e f m o g h i k=>bX.Z29 N a j b c l d e f m o g h i k (λa b c d e f g h i=>K (.exit 4) (jp a b c d e f g h i))) (λF a j b c l d e f m o g h i=>f77t29 N a j b c l d e f m o g h i _) (by kernel_rfl)
def f77t28 N a b c d e f g h i j l m o (K:KT J):=vL (wg a b c d e f g h i j l m o) (f77t28L N (jK mt K) N a b c d e f g h i j l m o) (by kernel_rfl)
def f77t27 N a j b c l d e f m o g h i (K:KT J):=vB 4 mt K (bX.Z27 N a j b c l d e f m o g h i (λa b c d e f g h i=>K .nrm (jp a b c d e f g h i))) (f77t28 N a j b c l d e f m o g h i _) (by kernel_rfl)
def f77t25 N a b c d e f g h i j (K:KT J):=vQ (λk=>bX.Z26 N a b c d e f g h i j k) (f77t26 N a b c d e f g h i j _) (nk λa l b c d e f g m o h i j=>f77t27 N a l b c d e f g m o h i j K)
def f77t23 N a b c d e f g h i (K:KT J):=vQ (λk=>bX.Z24 N a b c d e f g h i k) (f77t24 N a b c d e f g h i _) (dz λa b c j d e f g h i=>f77t25 N a b c j d e f g h i K)
def f77t22 N a b c d e f g h i (K:KT J):=vB 3 mt K (bX.Z22 N a b c d e f g h i (λa b c d e f g h i=>K .nrm (jp a b c d e f g h i))) (f77t23 N a b c d e f g h i _) (by kernel_rfl)
def f77t30 N a b c d e f g h i (K:KT J):iK N 3887 (jp a b c d e f g h i) mt K =
 bX.Z30 N a b c d e f g h i (λa b c d e f g h i=>K .nrm (jp a b c d e f g h i)):=by kernel_rfl
def f77t21 N a b c d e f g h i (K:KT J):=vQ (λk=>bX.Z22 N a b c d e f g h i k) (f77t22 N a b c d e f g h i _) (ee λa b c d e f g h i=>f77t30 N a b c d e f g h i K)
def f77t19 N c a b d e f j g h i (K:KT J):=vQ (λk=>bX.Z20 N c a b d e f j g h i k (λa b=>K (.exit 2) (p5 a b))) (f77t20 N c a b d e f j g h i _) (ee λc a b d e f g h i=>f77t21 N c a b d e f g h i K)
def f77t17 N a b c d e f g h i (K:KT J):=vQ (λk=>bX.Z18 N a b c d e f g h i k) (f77t18 N a b c d e f g h i _) (dz λa b c d e f j g h i=>f77t19 N a b c d e f j g h i K)
def f77t16L N (K:KT J):=q8 K (bX.Z16L N (λa b=>K (.exit 2) (p5 a b))) (λc a b d e f g h i k=>bX.Z17 N c a b d e f g h i k (λa b=>K (.exit 2) (p5 a b))) (λF c a b d e f g h i=>f77t17 N c a b d e f g h i _) (by kernel_rfl)
def f77t16 N a b c d e f g h i (K:KT J):=vL (jp a b c d e f g h i) (f77t16L N (jK Br K) N a b c d e f g h i) (by kernel_rfl)
def f77t15 N c a b d e f g h i (K:KT J):=vB 2 Br K (bX.Z15 N c a b d e f g h i (λa b=>K .nrm (p5 a b))) (f77t16 N c a b d e f g h i _) (by kernel_rfl)
def f77t13 N a b c d e f (K:KT J):=vQ (λk=>bX.Z14 N a b c d e f k) (f77t14 N a b c d e f _) (ee λa b c g h i d e f=>f77t15 N a b c g h i d e f K)
def f77t31 N a b (K:KT J):iK N 63 (p5 a b) f77lE K =
 bX.Z31 N a b (λc=>K .ret (p6 c)):=by kernel_rfl
def f77t12 N c a b d e f (K:KT J):=vQ (λk=>bX.Z13 N c a b d e f k) (f77t13 N c a b d e f _) (eN λa b=>f77t31 N a b K)
def f77t6 N a b c d e f (K:KT J):=vQ (λk=>bX.Z7 N a b c d e f k (λg=>K .ret (p6 g))) (f77t7 N a b c d e f _) (cN λa b c d e f=>f77t12 N a b c d e f K)
def f77t4 N a b c d e (K:KT J):=vQ (λk=>bX.Z5 N a b c d e k) (f77t5 N a b c d e _) (cN λa b f c d e=>f77t6 N a b f c d e K)
def f77t2 N a b c d (K:KT J):=vQ (λk=>bX.Z3 N a b c d k) (f77t3 N a b c d _) (cH λe a b c d=>f77t4 N e a b c d K)
def f77t0 N b a (K:KT J):=vQ (λk=>bX.Z1 N b a k) (f77t1 N b a _) (eO λa c d e=>f77t2 N a c d e K)
def f77ok(h:bX.Spec):ay Tryz.prog 77 Bq :=
 bI Tryz.func77 bu f77GOk (λN X K=>f77t0 N X.1 X.2.1 K) (by kernel_rfl) λX hb hp=>by obtain⟨a,b,_⟩:=X;obtain⟨N,h⟩:=h a b hb.1 hb.2.1 hp;exact⟨N,Eq.trans (by kernel_rfl) (h N (Nat.le_refl N))⟩
def e77ok:ay Tryz.prog 77 Bq:=f77ok bX.ok
def f78sig:bc:=⟨[⟨.sl 9 (.str),false,true⟩],[]⟩
def Bs:aQ:=⟨f78sig,(some λX=>ku.P X.1),λX=>((ku.g X.1),())⟩
def z01:Go.Shelf.Ren:=⟨λ|190=>78|125=>94|258=>111|128=>130|129=>131|302=>144|303=>145|304=>146|305=>147|306=>148|307=>149|308=>150|309=>151|310=>152|333=>175|329=>161|330=>162|334=>176|335=>177|336=>178|344=>193|n=>n,λ|31=>70|9=>9|3=>3|46=>96|0=>0|51=>130|53=>132|4=>4|183=>123|182=>122|131=>127|5=>5|218=>150|222=>120|228=>173|229=>174|n=>n,λn=>n⟩
def f78lay:Lays.n190 Tryz.prog z01:={ mixed:=(by kernel_rfl),f125:=Tryz.func94.trans (congrArg some (by kernel_rfl)),f128:=Tryz.func130.trans (congrArg some (by kernel_rfl)),f129:=Tryz.func131.trans (congrArg some (by kernel_rfl)),f190:=Tryz.func78.trans (congrArg some (by kernel_rfl)),f258:=Tryz.func111.trans (congrArg some (by kernel_rfl)),f302:=Tryz.func144.trans (congrArg some (by kernel_rfl)),f303:=Tryz.func145.trans (congrArg some (by kernel_rfl)),f304:=Tryz.func146.trans (congrArg some (by kernel_rfl)),f305:=Tryz.func147.trans (congrArg some (by kernel_rfl)),f306:=Tryz.func148.trans (congrArg some (by kernel_rfl)),f307:=Tryz.func149.trans (congrArg some (by kernel_rfl)),f308:=Tryz.func150.trans (congrArg some (by kernel_rfl)),f309:=Tryz.func151.trans (congrArg some (by kernel_rfl)),f310:=Tryz.func152.trans (congrArg some (by kernel_rfl)),f329:=Tryz.func161.trans (congrArg some (by kernel_rfl)),f330:=Tryz.func162.trans (congrArg some (by kernel_rfl)),f333:=Tryz.func175.trans (congrArg some (by kernel_rfl)),f334:=Tryz.func176.trans (congrArg some (by kernel_rfl)),f335:=Tryz.func177.trans (congrArg some (by kernel_rfl)),f336:=Tryz.func178.trans (congrArg some (by kernel_rfl)),f344:=Tryz.func193.trans (congrArg some (by kernel_rfl)),t0:=Tryz.underlying0,a0:=Tryz.isAgg0,z0:=Tryz.sizeOf0,v0:=Tryz.zeroValue0,t3:=Tryz.underlying3,a3:=Tryz.isAgg3,z3:=Tryz.sizeOf3,v3:=Tryz.zeroValue3,t4:=Tryz.underlying4,a4:=Tryz.isAgg4,z4:=Tryz.sizeOf4,v4:=Tryz.zeroValue4,t5:=Tryz.underlying5,a5:=Tryz.isAgg5,z5:=Tryz.sizeOf5,v5:=Tryz.zeroValue5,t9:=Tryz.underlying9,a9:=Tryz.isAgg9,z9:=Tryz.sizeOf9,v9:=Tryz.zeroValue9,t31:=Tryz.underlying70,a31:=Tryz.isAgg70,z31:=Tryz.sizeOf70,v31:=Tryz.zeroValue70,t46:=Tryz.underlying96,a46:=Tryz.isAgg96,z46:=Tryz.sizeOf96,v46:=Tryz.zeroValue96,t51:=Tryz.underlying130,a51:=Tryz.isAgg130,z51:=Tryz.sizeOf130,v51:=Tryz.zeroValue130,t53:=Tryz.underlying132,a53:=Tryz.isAgg132,z53:=Tryz.sizeOf132,v53:=Tryz.zeroValue132,t131:=Tryz.underlying127,a131:=Tryz.isAgg127,z131:=Tryz.sizeOf127,v131:=Tryz.zeroValue127,t182:=Tryz.underlying122,a182:=Tryz.isAgg122,z182:=Tryz.sizeOf122,v182:=Tryz.zeroValue122,t183:=Tryz.underlying123,a183:=Tryz.isAgg123,z183:=Tryz.sizeOf123,v183:=Tryz.zeroValue123,t218:=Tryz.underlying150,a218:=Tryz.isAgg150,z218:=Tryz.sizeOf150,v218:=Tryz.zeroValue150,t222:=Tryz.underlying120,a222:=Tryz.isAgg120,z222:=Tryz.sizeOf120,v222:=Tryz.zeroValue120,t228:=Tryz.underlying173,a228:=Tryz.isAgg173,z228:=Tryz.sizeOf173,v228:=Tryz.zeroValue173,t229:=Tryz.underlying174,a229:=Tryz.isAgg174,z229:=Tryz.sizeOf174,v229:=Tryz.zeroValue174 }
def f78ok(_:True):ay Tryz.prog 78 Bs:=Nj f78lay
def e78ok:ay Tryz.prog 78 Bs:=f78ok ku.ok
def Kg:bc:=⟨[⟨.pair (.int .i64) (.pair (.int .i64) (.sl 3 (.int .i64))),true,false⟩],[⟨.str,false,false⟩]⟩
def Bt:aQ:=⟨Kg,none,λX=>((),((bY.g X.1),()))⟩
def Kh:Gm:=aK (aK (aK (aK (aK be 42 vT) 76 Bk) 77 Bq) 78 Bs) 79 vR
def f33GOk:av Tryz.prog Kh:=(((((av.nil).add JG (by kernel_rfl)).add e76ok (by kernel_rfl)).add e77ok (by kernel_rfl)).add e78ok (by kernel_rfl)).add Jh (by kernel_rfl)
def f33lE:ab:=⟨[],[],[],[],[]⟩
def f33s0(a:MT):St:=bA Kg.ps (a,())
def Ki(a b:Int)(c:LI):St:=ah [(1,xb 1)] [(1,(27,[yi a,yi b,.sn 3 tI c none]))] []
def f33l1:ab:=⟨[1],[1],[],[],[]⟩
def Kj(a:LM)(b:Bool):St:=ah [(3,xo 1000192),(4,xB b)] [] [(1000192,(⟨27,tM 3,a,true,false⟩:ae))]
def f33l2:ab:=⟨[3,4],[],[],[],[(⟨false,3,0⟩,1000192)]⟩
def Kk(a:LM):St:=ah [(3,xo 1000192)] [] [(1000192,(⟨27,tM 3,a,true,false⟩:ae))]
def f33l3:ab:=⟨[3],[],[],[],[(⟨false,3,0⟩,1000192)]⟩
def kp(a:LM)(b c:Int):St:=ah [(19,xo 1001216),(20,xi b),(21,xi c)] [] [(1001216,(⟨27,tM 3,a,true,false⟩:ae))]
def p7:ab:=⟨[19,20,21],[],[],[],[(⟨false,19,0⟩,1001216)]⟩
def Kl(a:LM)(b c:Int)(d:Bool):St:=ah [(19,xo 1001216),(20,xi b),(21,xi c),(22,xB d)] [] [(1001216,(⟨27,tM 3,a,true,false⟩:ae))]
def f33l5:ab:=⟨[19,20,21,22],[],[],[],[(⟨false,19,0⟩,1001216)]⟩
def Km(a:LM)(b c d e:Int)(f:LI):St:=ah [(6,xb 6),(19,xo 1001216),(20,xi b),(21,xi c)] [(6,(27,[yi d,yi e,.sn 3 tI f (some 1001216)]))] [(1001216,(⟨27,tM 3,a,true,false⟩:ae))]
def f33l6:ab:=⟨[6,19,20,21],[6],[],[],[(⟨false,19,0⟩,1001216)]⟩
def Ko(a:LL)(b:LM)(c:Bool)(d e f g:Int)(h:LI):St:=ah [(6,xb 6),(7,xo 1000448),(8,xB c),(19,xo 1001216),(20,xi d),(21,xi e)] [(6,(27,[yi f,yi g,.sn 3 tI h (some 1001216)]))] [(1000448,(⟨22,.sl 3 tI,a,true,false⟩:ae)),(1001216,(⟨27,tM 3,b,true,false⟩:ae))]
def f33l7:ab:=⟨[6,7,8,19,20,21],[6],[],[],[(⟨false,7,0⟩,1000448),(⟨false,19,0⟩,1001216)]⟩
def Kp(a:LL)(b:LM)(c d:Int)(e:LI):St:=ah [(6,xb 6),(7,xo 1000448),(19,xo 1001216)] [(6,(27,[yi c,yi d,.sn 3 tI e (some 1001216)]))] [(1000448,(⟨22,.sl 3 tI,a,true,false⟩:ae)),(1001216,(⟨27,tM 3,b,true,false⟩:ae))]
def f33l8:ab:=⟨[6,7,19],[6],[],[],[(⟨false,7,0⟩,1000448),(⟨false,19,0⟩,1001216)]⟩
def Kq(a:LL)(b:LM)(d e:Int)(f:LI):St:=ah [(6,xb 6),(7,xo 1000448),(9,.c (.nil)),(19,xo 1001216)] [(6,(27,[yi d,yi e,.sn 3 tI f (some 1001216)]))] [(1000448,(⟨22,.sl 3 tI,a,true,false⟩:ae)),(1001216,(⟨27,tM 3,b,true,false⟩:ae))]
def f33l9:ab:=⟨[6,7,9,19],[6],[],[],[(⟨false,7,0⟩,1000448),(⟨false,19,0⟩,1001216)]⟩
def Kr(a:LM)(b:LL)(d e f g:Int)(h:LI):St:=ah [(6,xb 6),(9,.c (.nil)),(19,xo 1001216),(32,xo 1002048),(33,xi d),(34,xi e)] [(6,(27,[yi f,yi g,.sn 3 tI h (some 1001216)]))] [(1001216,(⟨27,tM 3,a,true,false⟩:ae)),(1002048,(⟨22,.sl 3 tI,b,true,false⟩:ae))]
def f33l10:ab:=⟨[6,9,19,32,33,34],[6],[],[],[(⟨false,19,0⟩,1001216),(⟨false,32,0⟩,1002048)]⟩
def Ks(a:List ByteArray)(b:LM)(c:LL)(d e f g:Int)(h:LI):St:=ah [(6,xb 6),(9,xo 1000576),(19,xo 1001216),(32,xo 1002048),(33,xi d),(34,xi e)] [(6,(27,[yi f,yi g,.sn 3 tI h (some 1001216)]))] [(1000576,(⟨9,.str,a,true,false⟩:ae)),(1001216,(⟨27,tM 3,b,true,false⟩:ae)),(1002048,(⟨22,.sl 3 tI,c,true,false⟩:ae))]
def f33l11:ab:=⟨[6,9,19,32,33,34],[6],[⟨⟨false,9,0⟩,30000000,9,.str,true⟩],[],[(⟨false,9,0⟩,1000576),(⟨false,19,0⟩,1001216),(⟨false,32,0⟩,1002048)]⟩
def sD(a:List ByteArray):St:=ah [(9,xo 1000576)] [] [(1000576,(⟨9,.str,a,true,false⟩:ae))]
def Bu:ab:=⟨[9],[],[],[],[(⟨false,9,0⟩,1000576)]⟩
def p8 :St:=ah [] [] []
def Bv:ab:=⟨[],[],[],[],[]⟩
def kq(a:ByteArray):St:=ah [(2,.c (.str a))] [] []
def f33l14:ab:=⟨[2],[],[],[],[]⟩
def f33B:Nat->Option ab:=aA [(2,Bu),(1,p7),(0,Bv),(1000000,f33l14)]
abbrev gI{J:Type}(N n:Nat)(V:St)(l:ab)(K:KT J):Option J:=am Kh bg f33B N (aZ 99 (bm Tryz.f33) n) .n V (az (some l) K)
def f33t1 N a (K:KT J):gI N 2 (f33s0 a) f33l1 K =
 bY.Z1 N a (λb c d=>K .nrm (Ki b c d)):=by kernel_rfl
def f33t3 N a b c (K:KT J):gI N 5 (Ki a b c) f33l2 K =
 bY.Z3 N a b c (λd e=>K .nrm (Kj d e)):=by kernel_rfl
def f33t5 N a b (K:KT J):gI N 11 (Kj a b) f33l3 K =
 bY.Z5 N a b (λa=>K .nrm (Kk a)) (λc=>K .ret (kq c)):=by kernel_rfl
def f33t8 N a (K:KT J):gI N 39 (Kk a) p7 K =
 bY.Z8 N a (λb c d=>K .nrm (kp b c d)):=by kernel_rfl
def f33t12 N a b c (K:KT J):gI N 279 (kp a b c) f33l5 K =
 bY.Z12 N a b c (λa b c d=>K .nrm (Kl a b c d)):=by kernel_rfl
def f33t14 N a b c d (K:KT J):gI N 663 (Kl a b c d) p7 K =
 bY.Z14 N a b c d (λa b c=>K .nrm (kp a b c)) (K (.exit 0) p8):=by kernel_rfl
def f33t18 N a b c (K:KT J):gI N 4503 (kp a b c) f33l6 K =
 bY.Z18 N a b c (λa b c d e f=>K .nrm (Km a b c d e f)):=by kernel_rfl
def f33t20 N a b c d e f (K:KT J):gI N 10647 (Km a b c d e f) f33l7 K =
 bY.Z20 N a b c d e f (λg a h b c d e f=>K .nrm (Ko g a h b c d e f)):=by kernel_rfl
def f33t22 N b a h c d e f g (K:KT J):gI N 22935 (Ko b a h c d e f g) f33l8 K =
 bY.Z22 N b a h c d e f g (λb a e f g=>K .nrm (Kp b a e f g)) (λa c d=>K (.exit 1) (kp a c d)):=by kernel_rfl
def f33t24 N a b c d e (K:KT J):gI N 47511 (Kp a b c d e) f33l9 K =
 bY.Z24 N a b c d e (λa b c d e=>K .nrm (Kq a b c d e)):=by kernel_rfl
def f33t27 N e a b c d (K:KT J):gI N 162199 (Kq e a b c d) f33l10 K =
 bY.Z27 N e a b c d (λa f g h b c d=>K .nrm (Kr a f g h b c d)):=by kernel_rfl
def f33t30 N a b c d e f g h (K:KT J):gI N 620951 (Ks a b c d e f g h) f33l11 K =
 bY.Z30 N a b c d e f g h (λa b c d e f g h=>K .nrm (Ks a b c d e f g h)) (λa=>K (.exit 2) (sD a)):=by kernel_rfl
def f33t29L N (K:KT J):=lG K (bY.Z29L N (λa=>K (.exit 2) (sD a))) (λa b c d e f g h k=>bY.Z30 N a b c d e f g h k (λa=>K (.exit 2) (sD a))) (λF a b c d e f g h=>f33t30 N a b c d e f g h _) (by kernel_rfl)
def f33t29 N a b c d e f g (K:KT J):=vL (Kr a b c d e f g) (f33t29L N (jK Bu K) N ([]:List ByteArray) a b c d e f g) (by kernel_rfl)
def f33t28 N a b c d e f g (K:KT J):=vB 2 Bu K (bY.Z28 N a b c d e f g (λh=>K .nrm (sD h))) (f33t29 N a b c d e f g _) (by kernel_rfl)
def f33t26 N e a b c d (K:KT J):=vQ (λk=>bY.Z27 N e a b c d k) (f33t27 N e a b c d _) (fa λa f g h b c d=>f33t28 N a f g h b c d K)
def f33t31 N a (K:KT J):gI N 129431 (sD a) p7 K =
 bY.Z31 N a (λb=>K .ret (kq b)):=by kernel_rfl
def f33t25 N a b c d e (K:KT J):=vQ (λk=>bY.Z26 N a b c d e k) (f33t26 N a b c d e _) (funext λf=>f33t31 N f K)
def f33t23 N a b c d e (K:KT J):=vQ (λk=>bY.Z24 N a b c d e k) (f33t24 N a b c d e _) (cH λa b c d e=>f33t25 N a b c d e K)
def f33t21 N b a h c d e f g (K:KT J):=vQ (λk=>bY.Z22 N b a h c d e f g k (λa c d=>K (.exit 1) (kp a c d))) (f33t22 N b a h c d e f g _) (cH λb a e f g=>f33t23 N b a e f g K)
def f33t19 N a b c d e f (K:KT J):=vQ (λk=>bY.Z20 N a b c d e f k) (f33t20 N a b c d e f _) (dy λg a h b c d e f=>f33t21 N g a h b c d e f K)
def f33t17 N a b c (K:KT J):=vQ (λk=>bY.Z18 N a b c k) (f33t18 N a b c _) (cN λa b c d e f=>f33t19 N a b c d e f K)
def f33t16 N a b c (K:KT J):=vB 1 p7 K (bY.Z16 N a b c (λa b c=>K .nrm (kp a b c)) (λd=>K .ret (kq d))) (f33t17 N a b c _) (by kernel_rfl)
def f33t32 N a b c (K:KT J):gI N 1943 (kp a b c) p7 K =
 bY.Z32 N a b c (λa b c=>K .nrm (kp a b c)):=by kernel_rfl
def f33t15 N a b c (K:KT J):=vQ (λk=>bY.Z16 N a b c k (λd=>K .ret (kq d))) (f33t16 N a b c _) (cW λa b c=>f33t32 N a b c K)
def f33t13 N a b c d (K:KT J):=vQ (λk=>bY.Z14 N a b c d k (K (.exit 0) p8)) (f33t14 N a b c d _) (cW λa b c=>f33t15 N a b c K)
def f33t11 N a b c (K:KT J):=vQ (λk=>bY.Z12 N a b c k) (f33t12 N a b c _) (eO λa b c d=>f33t13 N a b c d K)
def f33t10L N (K:KT J):=j0 K (bY.Z10L N (K (.exit 0) p8) (λa=>K .ret (kq a))) (λb c d k=>bY.Z11 N b c d k (K (.exit 0) p8) (λa=>K .ret (kq a))) (λF b c d=>f33t11 N b c d _) (by kernel_rfl)
def f33t10 N a b c (K:KT J):=vL (kp a b c) (f33t10L N (jK Bv K) N a b c) (by kernel_rfl)
def f33t9 N a b c (K:KT J):=vB 0 Bv K (bY.Z9 N a b c (K .nrm p8) (λd=>K .ret (kq d))) (f33t10 N a b c _) (by kernel_rfl)
def f33t7 N a (K:KT J):=vQ (λk=>bY.Z8 N a k) (f33t8 N a _) (cW λb c d=>f33t9 N b c d K)
def f33t33 N  (K:KT J):gI N 31 p8 f33lE K =
 bY.Z33 N (λa=>K .ret (kq a)):=by kernel_rfl
def f33t6 N a (K:KT J):=vQ (λk=>bY.Z7 N a k (λb=>K .ret (kq b))) (f33t7 N a _) (f33t33 N K)
def f33t4 N a b (K:KT J):=vQ (λk=>bY.Z5 N a b k (λc=>K .ret (kq c))) (f33t5 N a b _) (funext λa=>f33t6 N a K)
def f33t2 N a b c (K:KT J):=vQ (λk=>bY.Z3 N a b c k) (f33t3 N a b c _) (eN λd e=>f33t4 N d e K)
def f33t0 N a (K:KT J):=vQ (λk=>bY.Z1 N a k) (f33t1 N a _) (cW λb c d=>f33t2 N b c d K)
def f33ok(h:bY.Spec):ay Tryz.prog 33 Bt :=
 bI Tryz.func33 bu f33GOk (λN X K=>f33t0 N X.1 K) (by kernel_rfl) λX hb hp=>by obtain⟨a,_⟩:=X;obtain⟨N,h⟩:=h a hb.1;exact⟨N,Eq.trans (by kernel_rfl) (h N (Nat.le_refl N))⟩
def e33ok:ay Tryz.prog 33 Bt:=f33ok bY.ok
def Kt:bc:=⟨[⟨.pair (.int .i64) (.pair (.int .i64) (.sl 3 (.int .i64))),true,false⟩],[⟨.bool,false,false⟩]⟩
def Bw:aQ:=⟨Kt,none,λX=>((),((lb.g X.1),()))⟩
def Ku:Gm:=aK be 42 vT
def f12GOk:av Tryz.prog Ku:=(av.nil).add JG (by kernel_rfl)
def f12lE:ab:=⟨[],[],[],[],[]⟩
def f12s0(a:MT):St:=bA Kt.ps (a,())
def f12s1(a:Bool):St:=ah [(2,xB a)] [] []
def f12l1:ab:=⟨[2],[],[],[],[]⟩
def f12B:Nat->Option ab:=aA [(1000000,f12l1)]
abbrev f12j{J:Type}(N n:Nat)(V:St)(l:ab)(K:KT J):Option J:=am Ku bg f12B N (aZ 99 (bm Tryz.f12) n) .n V (az (some l) K)
def f12t0 N a (K:KT J):f12j N 1 (f12s0 a) f12lE K =
 lb.Z0 N a (λb=>K .ret (f12s1 b)):=by kernel_rfl
def f12ok(h:lb.Spec):ay Tryz.prog 12 Bw :=
 bI Tryz.func12 bu f12GOk (λN X K=>f12t0 N X.1 K) (by kernel_rfl) λX hb hp=>by obtain⟨a,_⟩:=X;obtain⟨N,h⟩:=h a hb.1;exact⟨N,Eq.trans (by kernel_rfl) (h N (Nat.le_refl N))⟩
def e12ok:ay Tryz.prog 12 Bw:=f12ok lb.ok
def Kv:bc:=⟨[⟨.sl 22 (.sl 3 (.int .i64)),false,false⟩,⟨.int .i64,false,false⟩],[⟨.bool,false,false⟩]⟩
def Bx:aQ:=⟨Kv,none,λX=>((),((eM.g X.1 X.2.1),()))⟩
def Kw:Gm:=be
def f38GOk:av Tryz.prog Kw:=av.nil
def f38lE:ab:=⟨[],[],[],[],[]⟩
def f38s0(a:LL)(b:Int):St:=bA Kv.ps (a,(b,()))
def wh(a:LL)(b:Int):St:=ah [(0,.c (.sn 22 (.sl 3 tI) a none)),(1,xi b)] [] []
def Kx:ab:=⟨[0,1],[],[],[],[]⟩
def wi(a:LL)(b d:Int):St:=ah [(0,.c (.sn 22 (.sl 3 tI) a none)),(1,xi b),(5,xi d)] [] []
def Ky:ab:=⟨[0,1,5],[],[],[],[]⟩
def sF :St:=ah [] [] []
def By:ab:=⟨[],[],[],[],[]⟩
def mu(a:Bool):St:=ah [(4,xB a)] [] []
def f38l4:ab:=⟨[4],[],[],[],[]⟩
def f38B:Nat->Option ab:=aA [(0,By),(1000000,f38l4)]
abbrev sG{J:Type}(N n:Nat)(V:St)(l:ab)(K:KT J):Option J:=am Kw bg f38B N (aZ 99 (bm Tryz.f38) n) .n V (az (some l) K)
def f38t1 N a b (K:KT J):sG N 2 (f38s0 a b) Kx K =
 eM.Z1 N a b (λa b=>K .nrm (wh a b)):=by kernel_rfl
def f38t3 N a b (K:KT J):sG N 5 (wh a b) Kx K =
 eM.Z3 N a b (λa b=>K .nrm (wh a b)) (λc=>K .ret (mu c)):=by kernel_rfl
def f38t6 N a b (K:KT J):sG N 19 (wh a b) Ky K =
 eM.Z6 N a b (λa b c=>K .nrm (wi a b c)):=by kernel_rfl
def f38t9 N a b c (K:KT J):sG N 75 (wi a b c) Ky K =
 eM.Z9 N a b c (λa b c=>K .nrm (wi a b c)) (K (.exit 0) sF) (λd=>K .ret (mu d)):=by kernel_rfl
def f38t8L N (K:KT J):=j0 K (eM.Z8L N (K (.exit 0) sF) (λa=>K .ret (mu a))) (λb c d k=>eM.Z9 N b c d k (K (.exit 0) sF) (λa=>K .ret (mu a))) (λF b c d=>f38t9 N b c d _) (by kernel_rfl)
def f38t8 N a b c (K:KT J):=vL (wi a b c) (f38t8L N (jK By K) N a b c) (by kernel_rfl)
def f38t7 N a b c (K:KT J):=vB 0 By K (eM.Z7 N a b c (K .nrm sF) (λd=>K .ret (mu d))) (f38t8 N a b c _) (by kernel_rfl)
def f38t5 N a b (K:KT J):=vQ (λk=>eM.Z6 N a b k) (f38t6 N a b _) (cW λa b c=>f38t7 N a b c K)
def f38t10 N  (K:KT J):sG N 15 sF f38lE K =
 eM.Z10 N (λa=>K .ret (mu a)):=by kernel_rfl
def f38t4 N a b (K:KT J):=vQ (λk=>eM.Z5 N a b k (λc=>K .ret (mu c))) (f38t5 N a b _) (f38t10 N K)
def f38t2 N a b (K:KT J):=vQ (λk=>eM.Z3 N a b k (λc=>K .ret (mu c))) (f38t3 N a b _) (eN λa b=>f38t4 N a b K)
def f38t0 N a b (K:KT J):=vQ (λk=>eM.Z1 N a b k) (f38t1 N a b _) (eN λa b=>f38t2 N a b K)
def f38ok(h:eM.Spec):ay Tryz.prog 38 Bx :=
 bI Tryz.func38 bu f38GOk (λN X K=>f38t0 N X.1 X.2.1 K) (by kernel_rfl) λX hb hp=>by obtain⟨a,b,_⟩:=X;obtain⟨N,h⟩:=h a b hb.1;exact⟨N,Eq.trans (by kernel_rfl) (h N (Nat.le_refl N))⟩
def e38ok:ay Tryz.prog 38 Bx:=f38ok eM.ok
def Kz:bc:=⟨[⟨.sl 5 (.int .u8),false,false⟩],[⟨.bool,false,false⟩]⟩
def e8:aQ:=⟨Kz,none,λX=>((),((cv.g X.1),()))⟩
def KA:Gm:=aK (aK (aK (aK (aK (aK (aK be 12 Bw) 20 zK) 29 AO) 33 Bt) 36 Az) 37 v7) 38 Bx
def f8GOk:av Tryz.prog KA:=(((((((av.nil).add e12ok (by kernel_rfl)).add PY (by kernel_rfl)).add e29ok (by kernel_rfl)).add e33ok (by kernel_rfl)).add ZX (by kernel_rfl)).add J7 (by kernel_rfl)).add e38ok (by kernel_rfl)
def f8lE:ab:=⟨[],[],[],[],[]⟩
def f8s0(a:List Int):St:=bA Kz.ps (a,())
def wj(a:List Int):St:=ah [(0,.c (.sn 5 (.int .u8) a none))] [] []
def KB:ab:=⟨[0],[],[],[],[]⟩
def KC(a b:LI)(d:ByteArray)(e f:Int):St:=ah [(3,xb 3),(4,.c (.str d)),(5,xo 1000320)] [(3,(27,[yi e,yi f,.own 20000194]))] [(1000320,(⟨3,.int .i64,a,true,false⟩:ae)),(20000194,(⟨3,.int .i64,b,true,false⟩:ae))]
def f8l2:ab:=⟨[3,4,5],[3],[],[],[(⟨false,5,0⟩,1000320),(⟨true,3,2⟩,20000194)]⟩
def KD(a b:LI)(d:ByteArray)(e:Bool)(f g h i:Int):St:=ah [(3,xb 3),(4,.c (.str d)),(6,xb 6),(7,xB e)] [(3,(27,[yi f,yi g,.own 20000194])),(6,(27,[yi h,yi i,.own 20000386]))] [(20000194,(⟨3,.int .i64,a,true,false⟩:ae)),(20000386,(⟨3,.int .i64,b,true,false⟩:ae))]
def f8l3:ab:=⟨[3,4,6,7],[3,6],[],[],[(⟨true,3,2⟩,20000194),(⟨true,6,2⟩,20000386)]⟩
def KE(a b:LI)(c d e f:Int):St:=ah [(3,xb 3),(6,xb 6)] [(3,(27,[yi c,yi d,.own 20000194])),(6,(27,[yi e,yi f,.own 20000386]))] [(20000194,(⟨3,.int .i64,a,true,false⟩:ae)),(20000386,(⟨3,.int .i64,b,true,false⟩:ae))]
def f8l4:ab:=⟨[3,6],[3,6],[],[],[(⟨true,3,2⟩,20000194),(⟨true,6,2⟩,20000386)]⟩
def wk(a:LL)(b:LI)(c d:Int):St:=ah [(3,xb 3),(8,xo 1000512)] [(3,(27,[yi c,yi d,.own 20000194]))] [(1000512,(⟨22,.sl 3 tI,a,true,false⟩:ae)),(20000194,(⟨3,.int .i64,b,true,false⟩:ae))]
def KF:ab:=⟨[3,8],[3],[],[],[(⟨false,8,0⟩,1000512),(⟨true,3,2⟩,20000194)]⟩
def jq(a:LL)(b:LI)(c d e:Int):St:=ah [(3,xb 3),(8,xo 1000512),(9,xi c)] [(3,(27,[yi d,yi e,.own 20000194]))] [(1000512,(⟨22,.sl 3 tI,a,true,false⟩:ae)),(20000194,(⟨3,.int .i64,b,true,false⟩:ae))]
def mv:ab:=⟨[3,8,9],[3],[],[],[(⟨false,8,0⟩,1000512),(⟨true,3,2⟩,20000194)]⟩
def wl(a:LL)(b:LI)(c d e f:Int):St:=ah [(3,xb 3),(8,xo 1000512),(9,xi c),(10,xi d)] [(3,(27,[yi e,yi f,.own 20000194]))] [(1000512,(⟨22,.sl 3 tI,a,true,false⟩:ae)),(20000194,(⟨3,.int .i64,b,true,false⟩:ae))]
def KG:ab:=⟨[3,8,9,10],[3],[],[],[(⟨false,8,0⟩,1000512),(⟨true,3,2⟩,20000194)]⟩
def p9 :St:=ah [] [] []
def Bz:ab:=⟨[],[],[],[],[]⟩
def gc(a:Bool):St:=ah [(2,xB a)] [] []
def f8l9:ab:=⟨[2],[],[],[],[]⟩
def f8B:Nat->Option ab:=aA [(2,mv),(1,mv),(0,Bz),(1000000,f8l9)]
abbrev iL{J:Type}(N n:Nat)(V:St)(l:ab)(K:KT J):Option J:=am KA bg f8B N (aZ 99 (bm Tryz.f8) n) .n V (az (some l) K)
def f8t1 N a (K:KT J):iL N 2 (f8s0 a) KB K =
 cv.Z1 N a (λa=>K .nrm (wj a)):=by kernel_rfl
def f8t3 N a (K:KT J):iL N 5 (wj a) KB K =
 cv.Z3 N a (λa=>K .nrm (wj a)) (λb=>K .ret (gc b)):=by kernel_rfl
def f8t5 N a (K:KT J):iL N 11 (wj a) f8l2 K =
 cv.Z5 N a (λb c d e f=>K .nrm (KC b c d e f)):=by kernel_rfl
def f8t7 N e a b c d (K:KT J):iL N 23 (KC e a b c d) f8l3 K =
 cv.Z7 N e a b c d (λa f b g c d h i=>K .nrm (KD a f b g c d h i)):=by kernel_rfl
def f8t9 N a b g h c d e f (K:KT J):iL N 47 (KD a b g h c d e f) f8l4 K =
 cv.Z9 N a b g h c d e f (λa b c d e f=>K .nrm (KE a b c d e f)) (λi=>K .ret (gc i)):=by kernel_rfl
def f8t11 N a d b c e f (K:KT J):iL N 95 (KE a d b c e f) KF K =
 cv.Z11 N a d b c e f (λg a b c=>K .nrm (wk g a b c)):=by kernel_rfl
def f8t13 N a b c d (K:KT J):iL N 191 (wk a b c d) KF K =
 cv.Z13 N a b c d (λa b c d=>K .nrm (wk a b c d)) (λe=>K .ret (gc e)):=by kernel_rfl
def f8t16 N a b c d (K:KT J):iL N 639 (wk a b c d) mv K =
 cv.Z16 N a b c d (λa b e c d=>K .nrm (jq a b e c d)):=by kernel_rfl
def f8t20 N a b c d e (K:KT J):iL N 4479 (jq a b c d e) mv K =
 cv.Z20 N a b c d e (λa b c d e=>K .nrm (jq a b c d e)) (K (.exit 0) p9):=by kernel_rfl
def f8t24 N a b c d e (K:KT J):iL N 35199 (jq a b c d e) KG K =
 cv.Z24 N a b c d e (λa b c f d e=>K .nrm (wl a b c f d e)):=by kernel_rfl
def f8t27 N a b c f d e (K:KT J):iL N 149887 (wl a b c f d e) KG K =
 cv.Z27 N a b c f d e (λa b c f d e=>K .nrm (wl a b c f d e)) (λa b c d e=>K (.exit 2) (jq a b c d e)) (λg=>K .ret (gc g)):=by kernel_rfl
def f8t26L N (K:KT J):=lF K (cv.Z26L N (λa b c d e=>K (.exit 2) (jq a b c d e)) (λf=>K .ret (gc f))) (λa b c g d e k=>cv.Z27 N a b c g d e k (λa b c d e=>K (.exit 2) (jq a b c d e)) (λf=>K .ret (gc f))) (λF a b c g d e=>f8t27 N a b c g d e _) (by kernel_rfl)
def f8t26 N a b c d e f (K:KT J):=vL (wl a b c d e f) (f8t26L N (jK mv K) N a b c d e f) (by kernel_rfl)
def f8t25 N a b c f d e (K:KT J):=vB 2 mv K (cv.Z25 N a b c f d e (λa b c d e=>K .nrm (jq a b c d e)) (λg=>K .ret (gc g))) (f8t26 N a b c f d e _) (by kernel_rfl)
def f8t23 N a b c d e (K:KT J):=vQ (λk=>cv.Z24 N a b c d e k) (f8t24 N a b c d e _) (cN λa b c f d e=>f8t25 N a b c f d e K)
def f8t22 N a b c d e (K:KT J):=vB 1 mv K (cv.Z22 N a b c d e (λa b c d e=>K .nrm (jq a b c d e)) (λf=>K .ret (gc f))) (f8t23 N a b c d e _) (by kernel_rfl)
def f8t28 N a b c d e (K:KT J):iL N 14719 (jq a b c d e) mv K =
 cv.Z28 N a b c d e (λa b c d e=>K .nrm (jq a b c d e)):=by kernel_rfl
def f8t21 N a b c d e (K:KT J):=vQ (λk=>cv.Z22 N a b c d e k (λf=>K .ret (gc f))) (f8t22 N a b c d e _) (cH λa b c d e=>f8t28 N a b c d e K)
def f8t19 N a b c d e (K:KT J):=vQ (λk=>cv.Z20 N a b c d e k (K (.exit 0) p9)) (f8t20 N a b c d e _) (cH λa b c d e=>f8t21 N a b c d e K)
def f8t18L N (K:KT J):=lE K (cv.Z18L N (K (.exit 0) p9) (λa=>K .ret (gc a))) (λb c d e f k=>cv.Z19 N b c d e f k (K (.exit 0) p9) (λa=>K .ret (gc a))) (λF b c d e f=>f8t19 N b c d e f _) (by kernel_rfl)
def f8t18 N a b c d e (K:KT J):=vL (jq a b c d e) (f8t18L N (jK Bz K) N a b c d e) (by kernel_rfl)
def f8t17 N a b c d e (K:KT J):=vB 0 Bz K (cv.Z17 N a b c d e (K .nrm p9) (λf=>K .ret (gc f))) (f8t18 N a b c d e _) (by kernel_rfl)
def f8t15 N a b c d (K:KT J):=vQ (λk=>cv.Z16 N a b c d k) (f8t16 N a b c d _) (cH λa b e c d=>f8t17 N a b e c d K)
def f8t29 N  (K:KT J):iL N 511 p9 f8lE K =
 cv.Z29 N (λa=>K .ret (gc a)):=by kernel_rfl
def f8t14 N a b c d (K:KT J):=vQ (λk=>cv.Z15 N a b c d k (λe=>K .ret (gc e))) (f8t15 N a b c d _) (f8t29 N K)
def f8t12 N a b c d (K:KT J):=vQ (λk=>cv.Z13 N a b c d k (λe=>K .ret (gc e))) (f8t13 N a b c d _) (eO λa b c d=>f8t14 N a b c d K)
def f8t10 N a d b c e f (K:KT J):=vQ (λk=>cv.Z11 N a d b c e f k) (f8t11 N a d b c e f _) (eO λg a b c=>f8t12 N g a b c K)
def f8t8 N a b g h c d e f (K:KT J):=vQ (λk=>cv.Z9 N a b g h c d e f k (λi=>K .ret (gc i))) (f8t9 N a b g h c d e f _) (cN λa b c d e f=>f8t10 N a b c d e f K)
def f8t6 N e a b c d (K:KT J):=vQ (λk=>cv.Z7 N e a b c d k) (f8t7 N e a b c d _) (dy λa f b g c d h i=>f8t8 N a f b g c d h i K)
def f8t4 N a (K:KT J):=vQ (λk=>cv.Z5 N a k) (f8t5 N a _) (cH λb c d e f=>f8t6 N b c d e f K)
def f8t2 N a (K:KT J):=vQ (λk=>cv.Z3 N a k (λb=>K .ret (gc b))) (f8t3 N a _) (funext λa=>f8t4 N a K)
def f8t0 N a (K:KT J):=vQ (λk=>cv.Z1 N a k) (f8t1 N a _) (funext λa=>f8t2 N a K)
def f8ok(h:cv.Spec):ay Tryz.prog 8 e8 :=
 bI Tryz.func8 bu f8GOk (λN X K=>f8t0 N X.1 K) (by kernel_rfl) λX hb hp=>by obtain⟨a,_⟩:=X;obtain⟨N,h⟩:=h a hb.1;exact⟨N,Eq.trans (by kernel_rfl) (h N (Nat.le_refl N))⟩
def e8ok:ay Tryz.prog 8 e8:=f8ok cv.ok
end Go.Fw
