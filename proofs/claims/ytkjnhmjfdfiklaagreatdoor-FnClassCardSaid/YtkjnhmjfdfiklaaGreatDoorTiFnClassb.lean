/- The ties: the program's text comes to the plain functions. Nothing is assumed. -/
import Derived.Test.YtkjnhmjfdfiklaaGreatDoorPuFnClassb
import Derived.Test.YtkjnhmjfdfiklaaGreatDoorTiFnClassa
import Derived.Test.YtkjnhmjfdfiklaaGreatDoorPuFnClassc
import Derived.Test.YtkjnhmjfdfiklaaGreatDoorChecked
import Derived.Test.YtkjnhmjfdfiklaaGreatDoorFza
noncomputable section
set_option linter.defProp false
set_option linter.unusedSectionVars false
set_option linter.unusedVariables false
set_option linter.unusedSimpArgs false
set_option maxRecDepth 100000
namespace Go.Fw
variable {J : Type}
open Go.Proofs
def HY:ba:=⟨[⟨.sl 3 (.int .i64),false,false⟩,⟨.int .i64,false,false⟩],[⟨.int .i64,false,false⟩]⟩
def Au:aQ:=⟨HY,none,λX=>((),((fe.g X.1 X.2.1),()))⟩
def HZ:Gm:=aY
def f182GOk:ao Tryz.prog HZ:=ao.nil
def f182lE:ab:=⟨[],[],[],[],[]⟩
def f182s0(a:LI)(b:Int):St:=bu HY.ps (a,(b,()))
def H0(a:LI)(b:Int):St:=af [(0,.c (.sn 3 tI a none)),(1,xi b)] [] []
def f182l1:ab:=⟨[0,1],[],[],[],[]⟩
def uQ(a:LI)(b d e:Int):St:=af [(0,.c (.sn 3 tI a none)),(1,xi b),(7,xi d),(8,xi e)] [] []
def H1:ab:=⟨[0,1,7,8],[],[],[],[]⟩
def rD :St:=af [] [] []
def Av:ab:=⟨[],[],[],[],[]⟩
def o8(a:Int):St:=af [(4,xi a)] [] []
def f182l4:ab:=⟨[4],[],[],[],[]⟩
def f182B:Nat->Option ab:=aA [(0,Av),(1000000,f182l4)]
abbrev uR{J:Type}(N n:Nat)(V:St)(l:ab)(K:KT J):Option J:=an HZ aZ f182B N (aT 99 (a7 Tryz.f182) n) .n V (ay (some l) K)
def f182t1 N a b (K:KT J):uR N 2 (f182s0 a b) f182l1 K =
 fe.Z1 N a b (λa b=>K .nrm (H0 a b)):=by kernel_rfl
def f182t4 N a b (K:KT J):uR N 9 (H0 a b) H1 K =
 fe.Z4 N a b (λa b c d=>K .nrm (uQ a b c d)):=by kernel_rfl
def f182t7 N a b c d (K:KT J):uR N 37 (uQ a b c d) H1 K =
 fe.Z7 N a b c d (λa b c d=>K .nrm (uQ a b c d)) (K (.exit 0) rD) (λe=>K .ret (o8 e)):=by kernel_rfl
def f182t6L N (K:KT J):=mN K (fe.Z6L N (K (.exit 0) rD) (λa=>K .ret (o8 a))) (λb c d e k=>fe.Z7 N b c d e k (K (.exit 0) rD) (λa=>K .ret (o8 a))) (λF b c d e=>f182t7 N b c d e _) (by kernel_rfl)
def f182t6 N a b c d (K:KT J):=vL (uQ a b c d) (f182t6L N (jK Av K) N a b c d) (by kernel_rfl)
def f182t5 N a b c d (K:KT J):=vB 0 Av K (fe.Z5 N a b c d (K .nrm rD) (λe=>K .ret (o8 e))) (f182t6 N a b c d _) (by kernel_rfl)
def f182t3 N a b (K:KT J):=vQ (λk=>fe.Z4 N a b k) (f182t4 N a b _) (d7 λa b c d=>f182t5 N a b c d K)
def f182t8 N  (K:KT J):uR N 7 rD f182lE K =
 fe.Z8 N (λa=>K .ret (o8 a)):=by kernel_rfl
def f182t2 N a b (K:KT J):=vQ (λk=>fe.Z3 N a b k (λc=>K .ret (o8 c))) (f182t3 N a b _) (f182t8 N K)
def f182t0 N a b (K:KT J):=vQ (λk=>fe.Z1 N a b k) (f182t1 N a b _) (cV λa b=>f182t2 N a b K)
def f182ok(h:fe.Spec):aw Tryz.prog 182 Au :=
 bA Tryz.func182 a8 f182GOk (λN X K=>f182t0 N X.1 X.2.1 K) (by kernel_rfl) λX hb hp=>by obtain⟨a,b,_⟩:=X;obtain⟨N,h⟩:=h a b hb.1;exact⟨N,Eq.trans (by kernel_rfl) (h N (Nat.le_refl N))⟩
def e182ok:aw Tryz.prog 182 Au:=f182ok fe.ok
def H2:ba:=⟨[⟨.sl 3 (.int .i64),false,false⟩,⟨.int .i64,false,false⟩],[⟨.bool,false,false⟩]⟩
def Aw:aQ:=⟨H2,none,λX=>((),((kJ.g X.1 X.2.1),()))⟩
def H3:Gm:=aI aY 182 Au
def f157GOk:ao Tryz.prog H3:=(ao.nil).add e182ok (by kernel_rfl)
def f157lE:ab:=⟨[],[],[],[],[]⟩
def f157s0(a:LI)(b:Int):St:=bu H2.ps (a,(b,()))
def f157s1(a:Bool):St:=af [(4,xB a)] [] []
def f157l1:ab:=⟨[4],[],[],[],[]⟩
def f157B:Nat->Option ab:=aA [(1000000,f157l1)]
abbrev f157j{J:Type}(N n:Nat)(V:St)(l:ab)(K:KT J):Option J:=an H3 aZ f157B N (aT 99 (a7 Tryz.f157) n) .n V (ay (some l) K)
def f157t0 N a b (K:KT J):f157j N 1 (f157s0 a b) f157lE K =
 kJ.Z0 N a b (λc=>K .ret (f157s1 c)):=by kernel_rfl
def f157ok(h:kJ.Spec):aw Tryz.prog 157 Aw :=
 bA Tryz.func157 a8 f157GOk (λN X K=>f157t0 N X.1 X.2.1 K) (by kernel_rfl) λX hb hp=>by obtain⟨a,b,_⟩:=X;obtain⟨N,h⟩:=h a b hb.1;exact⟨N,Eq.trans (by kernel_rfl) (h N (Nat.le_refl N))⟩
def e157ok:aw Tryz.prog 157 Aw:=f157ok kJ.ok
def H4:ba:=⟨[⟨.sl 3 (.int .i64),false,false⟩,⟨.int .i64,false,false⟩],[⟨.bool,false,false⟩]⟩
def Ax:aQ:=⟨H4,none,λX=>((),((eO.g X.1 X.2.1),()))⟩
def H5:Gm:=aI (aI aY 91 oS) 157 Aw
def f116GOk:ao Tryz.prog H5:=((ao.nil).add uD (by kernel_rfl)).add e157ok (by kernel_rfl)
def f116lE:ab:=⟨[],[],[],[],[]⟩
def f116s0(a:LI)(b:Int):St:=bu H4.ps (a,(b,()))
def uS(a:LI)(b:Int):St:=af [(0,.c (.sn 3 tI a none)),(1,xi b)] [] []
def H6:ab:=⟨[0,1],[],[],[],[]⟩
def uT(a:LI)(b:Int)(d:LI)(e f:Int):St:=af [(0,.c (.sn 3 tI a none)),(1,xi b),(11,.c (.sn 3 tI d none)),(12,xi e),(13,xi f)] [] []
def H7:ab:=⟨[0,1,11,12,13],[],[],[],[]⟩
def rE :St:=af [] [] []
def Ay:ab:=⟨[],[],[],[],[]⟩
def lP(a:Bool):St:=af [(4,xB a)] [] []
def f116l4:ab:=⟨[4],[],[],[],[]⟩
def f116B:Nat->Option ab:=aA [(0,Ay),(1000000,f116l4)]
abbrev rF{J:Type}(N n:Nat)(V:St)(l:ab)(K:KT J):Option J:=an H5 aZ f116B N (aT 99 (a7 Tryz.f116) n) .n V (ay (some l) K)
def f116t1 N a b (K:KT J):rF N 2 (f116s0 a b) H6 K =
 eO.Z1 N a b (λa b=>K .nrm (uS a b)):=by kernel_rfl
def f116t3 N a b (K:KT J):rF N 5 (uS a b) H6 K =
 eO.Z3 N a b (λa b=>K .nrm (uS a b)) (λc=>K .ret (lP c)):=by kernel_rfl
def f116t6 N a b (K:KT J):rF N 19 (uS a b) H7 K =
 eO.Z6 N a b (λa b c d e=>K .nrm (uT a b c d e)):=by kernel_rfl
def f116t9 N a b c d e (K:KT J):rF N 75 (uT a b c d e) H7 K =
 eO.Z9 N a b c d e (λa b c d e=>K .nrm (uT a b c d e)) (K (.exit 0) rE) (λf=>K .ret (lP f)):=by kernel_rfl
def f116t8L N (K:KT J):=mO K (eO.Z8L N (K (.exit 0) rE) (λa=>K .ret (lP a))) (λb c d e f k=>eO.Z9 N b c d e f k (K (.exit 0) rE) (λa=>K .ret (lP a))) (λF b c d e f=>f116t9 N b c d e f _) (by kernel_rfl)
def f116t8 N a b c d e (K:KT J):=vL (uT a b c d e) (f116t8L N (jK Ay K) N a b c d e) (by kernel_rfl)
def f116t7 N a b c d e (K:KT J):=vB 0 Ay K (eO.Z7 N a b c d e (K .nrm rE) (λf=>K .ret (lP f))) (f116t8 N a b c d e _) (by kernel_rfl)
def f116t5 N a b (K:KT J):=vQ (λk=>eO.Z6 N a b k) (f116t6 N a b _) (cn λa b c d e=>f116t7 N a b c d e K)
def f116t10 N  (K:KT J):rF N 15 rE f116lE K =
 eO.Z10 N (λa=>K .ret (lP a)):=by kernel_rfl
def f116t4 N a b (K:KT J):=vQ (λk=>eO.Z5 N a b k (λc=>K .ret (lP c))) (f116t5 N a b _) (f116t10 N K)
def f116t2 N a b (K:KT J):=vQ (λk=>eO.Z3 N a b k (λc=>K .ret (lP c))) (f116t3 N a b _) (cV λa b=>f116t4 N a b K)
def f116t0 N a b (K:KT J):=vQ (λk=>eO.Z1 N a b k) (f116t1 N a b _) (cV λa b=>f116t2 N a b K)
def f116ok(h:eO.Spec):aw Tryz.prog 116 Ax :=
 bA Tryz.func116 a8 f116GOk (λN X K=>f116t0 N X.1 X.2.1 K) (by kernel_rfl) λX hb hp=>by obtain⟨a,b,_⟩:=X;obtain⟨N,h⟩:=h a b hb.1;exact⟨N,Eq.trans (by kernel_rfl) (h N (Nat.le_refl N))⟩
def e116ok:aw Tryz.prog 116 Ax:=f116ok eO.ok
def H8:ba:=⟨[⟨.pair (.int .i64) (.pair (.int .i64) (.sl 3 (.int .i64))),true,false⟩,⟨.sl 3 (.int .i64),false,false⟩],[⟨.pair (.int .i64) (.pair (.int .i64) (.sl 3 (.int .i64))),true,false⟩,⟨.bool,false,false⟩]⟩
def Az:aQ:=⟨H8,none,λX=>((),((bN.g X.1 X.2.1).1,((bN.g X.1 X.2.1).2,())))⟩
def H9:Gm:=aI (aI (aI aY 63 nn) 83 oU) 116 Ax
def f81GOk:ao Tryz.prog H9:=(((ao.nil).add rC (by kernel_rfl)).add uG (by kernel_rfl)).add e116ok (by kernel_rfl)
def f81lE:ab:=⟨[],[],[],[],[]⟩
def f81s0(a:MT)(b:LI):St:=bu H8.ps (a,(b,()))
def uU(a:LI)(b d:Int)(e:LI)(f g:Int):St:=af [(1,.c (.sn 3 tI a none)),(2,xb 2),(4,xb 4)] [(2,(27,[yi b,yi d,.sn 3 tI e none])),(4,(27,[yi f,yi g,.nil]))] []
def Ia:ab:=⟨[1,2,4],[2,4],[],[],[]⟩
def Ib(a b:LI)(d e:Int)(f:LI)(g h i j:Int):St:=af [(1,.c (.sn 3 tI b none)),(2,xb 2),(4,xb 4),(6,xb 6)] [(2,(27,[yi d,yi e,.sn 3 tI f none])),(4,(27,[yi g,yi h,.nil])),(6,(27,[yi i,yi j,.own 20000386]))] [(20000386,(⟨3,.int .i64,a,true,false⟩:ae))]
def f81l2:ab:=⟨[1,2,4,6],[2,4,6],[],[],[(⟨true,6,2⟩,20000386)]⟩
def iN(a b:LI)(d e f:Int)(g:LI)(h i j l:Int):St:=af [(1,.c (.sn 3 tI b none)),(2,xb 2),(4,xb 4),(6,xb 6),(7,xi d)] [(2,(27,[yi e,yi f,.sn 3 tI g none])),(4,(27,[yi h,yi i,.nil])),(6,(27,[yi j,yi l,.own 20000386]))] [(20000386,(⟨3,.int .i64,a,true,false⟩:ae))]
def lQ:ab:=⟨[1,2,4,6,7],[2,4,6],[],[],[(⟨true,6,2⟩,20000386)]⟩
def uV(a b:LI)(d e f g:Int)(h:LI)(i j l m:Int):St:=af [(1,.c (.sn 3 tI b none)),(2,xb 2),(4,xb 4),(6,xb 6),(7,xi d),(8,xi e)] [(2,(27,[yi f,yi g,.sn 3 tI h none])),(4,(27,[yi i,yi j,.nil])),(6,(27,[yi l,yi m,.own 20000386]))] [(20000386,(⟨3,.int .i64,a,true,false⟩:ae))]
def Ic:ab:=⟨[1,2,4,6,7,8],[2,4,6],[],[],[(⟨true,6,2⟩,20000386)]⟩
def uW(a b:LI)(d e f g h:Int)(i:LI)(j l m o:Int):St:=af [(1,.c (.sn 3 tI b none)),(2,xb 2),(4,xb 4),(6,xb 6),(7,xi d),(8,xi e),(9,xi f)] [(2,(27,[yi g,yi h,.sn 3 tI i none])),(4,(27,[yi j,yi l,.nil])),(6,(27,[yi m,yi o,.own 20000386]))] [(20000386,(⟨3,.int .i64,a,true,false⟩:ae))]
def Id:ab:=⟨[1,2,4,6,7,8,9],[2,4,6],[],[],[(⟨true,6,2⟩,20000386)]⟩
def o9(a:LI)(b c d e:Int):St:=af [(4,xb 4),(6,xb 6)] [(4,(27,[yi b,yi c,.nil])),(6,(27,[yi d,yi e,.own 20000386]))] [(20000386,(⟨3,.int .i64,a,true,false⟩:ae))]
def AA:ab:=⟨[4,6],[4,6],[],[],[(⟨true,6,2⟩,20000386)]⟩
def AB(a:LI)(b:Bool)(c d:Int):St:=af [(4,xb 4),(5,xB b)] [(4,(27,[yi c,yi d,.own 20000258]))] [(20000258,(⟨3,.int .i64,a,true,false⟩:ae))]
def f81l7:ab:=⟨[4,5],[4],[⟨⟨true,4,2⟩,30000000,3,.int .i64,true⟩],[],[(⟨true,4,2⟩,20000258)]⟩
def f81B:Nat->Option ab:=aA [(2,lQ),(1,lQ),(0,AA),(1000000,f81l7)]
abbrev jo{J:Type}(N n:Nat)(V:St)(l:ab)(K:KT J):Option J:=an H9 aZ f81B N (aT 99 (a7 Tryz.f81) n) .n V (ay (some l) K)
def f81t1 N b a (K:KT J):jo N 2 (f81s0 b a) Ia K =
 bN.Z1 N b a (λa c d e f g=>K .nrm (uU a c d e f g)):=by kernel_rfl
def f81t3 N c d e f a b (K:KT J):jo N 5 (uU c d e f a b) Ia K =
 bN.Z3 N c d e f a b (λc d e f a b=>K .nrm (uU c d e f a b)) (λg h a b=>K .ret (AB g h a b)):=by kernel_rfl
def f81t5 N a b c d e f (K:KT J):jo N 11 (uU a b c d e f) f81l2 K =
 bN.Z5 N a b c d e f (λg a b c d e f h i=>K .nrm (Ib g a b c d e f h i)):=by kernel_rfl
def f81t8 N a b c d e f g h i (K:KT J):jo N 39 (Ib a b c d e f g h i) lQ K =
 bN.Z8 N a b c d e f g h i (λa b j c d e f g h i=>K .nrm (iN a b j c d e f g h i)):=by kernel_rfl
def f81t12 N a f g h i j b c d e (K:KT J):jo N 279 (iN a f g h i j b c d e) lQ K =
 bN.Z12 N a f g h i j b c d e (λa f g h i j b c d e=>K .nrm (iN a f g h i j b c d e)) (λa b c d e=>K (.exit 0) (o9 a b c d e)):=by kernel_rfl
def f81t16 N a b c d e f g h i j (K:KT J):jo N 2199 (iN a b c d e f g h i j) Ic K =
 bN.Z16 N a b c d e f g h i j (λa b c l d e f g h i j=>K .nrm (uV a b c l d e f g h i j)):=by kernel_rfl
def f81t18 N a b c d e f g h i j l (K:KT J):jo N 5271 (uV a b c d e f g h i j l) Ic K =
 bN.Z18 N a b c d e f g h i j l (λa b c d e f g h i j l=>K .nrm (uV a b c d e f g h i j l)):=by kernel_rfl
def f81t20 N a b c d e f g h i j l (K:KT J):jo N 11415 (uV a b c d e f g h i j l) Id K =
 bN.Z20 N a b c d e f g h i j l (λa b c d m e f g h i j l=>K .nrm (uW a b c d m e f g h i j l)):=by kernel_rfl
def f81t23 N a b c l m d e f g h i j (K:KT J):jo N 40087 (uW a b c l m d e f g h i j) Id K =
 bN.Z23 N a b c l m d e f g h i j (λa b c l m d e f g h i j=>K .nrm (uW a b c l m d e f g h i j)) (λa b c d e f g h i j=>K (.exit 2) (iN a b c d e f g h i j)):=by kernel_rfl
def f81t22L N (K:KT J):=qy K (bN.Z22L N (λa b c d e f g h i j=>K (.exit 2) (iN a b c d e f g h i j))) (λa b c l m d e f g h i j k=>bN.Z23 N a b c l m d e f g h i j k (λa b c d e f g h i j=>K (.exit 2) (iN a b c d e f g h i j))) (λF a b c l m d e f g h i j=>f81t23 N a b c l m d e f g h i j _) (by kernel_rfl)
def f81t22 N a b c d e f g h i j l m (K:KT J):=vL (uW a b c d e f g h i j l m) (f81t22L N (jK lQ K) N a b c d e f g h i j l m) (by kernel_rfl)
def f81t21 N a b c l m d e f g h i j (K:KT J):=vB 2 lQ K (bN.Z21 N a b c l m d e f g h i j (λa b c d e f g h i j=>K .nrm (iN a b c d e f g h i j))) (f81t22 N a b c l m d e f g h i j _) (by kernel_rfl)
def f81t19 N a b c d e f g h i j l (K:KT J):=vQ (λk=>bN.Z20 N a b c d e f g h i j l k) (f81t20 N a b c d e f g h i j l _) (og λa b c d m e f g h i j l=>f81t21 N a b c d m e f g h i j l K)
def f81t17 N a b c d e f g h i j l (K:KT J):=vQ (λk=>bN.Z18 N a b c d e f g h i j l k) (f81t18 N a b c d e f g h i j l _) (fQ λa b c d e f g h i j l=>f81t19 N a b c d e f g h i j l K)
def f81t15 N a b c d e f g h i j (K:KT J):=vQ (λk=>bN.Z16 N a b c d e f g h i j k) (f81t16 N a b c d e f g h i j _) (fQ λa b c l d e f g h i j=>f81t17 N a b c l d e f g h i j K)
def f81t14 N a b c d e f g h i j (K:KT J):=vB 1 lQ K (bN.Z14 N a b c d e f g h i j (λa b c d e f g h i j=>K .nrm (iN a b c d e f g h i j))) (f81t15 N a b c d e f g h i j _) (by kernel_rfl)
def f81t24 N a b c d e f g h i j (K:KT J):jo N 919 (iN a b c d e f g h i j) lQ K =
 bN.Z24 N a b c d e f g h i j (λa b c d e f g h i j=>K .nrm (iN a b c d e f g h i j)):=by kernel_rfl
def f81t13 N a b c d e f g h i j (K:KT J):=vQ (λk=>bN.Z14 N a b c d e f g h i j k) (f81t14 N a b c d e f g h i j _) (dA λa b c d e f g h i j=>f81t24 N a b c d e f g h i j K)
def f81t11 N a f g h i j b c d e (K:KT J):=vQ (λk=>bN.Z12 N a f g h i j b c d e k (λa b c d e=>K (.exit 0) (o9 a b c d e))) (f81t12 N a f g h i j b c d e _) (dA λa f g h i j b c d e=>f81t13 N a f g h i j b c d e K)
def f81t10L N (K:KT J):=jC K (bN.Z10L N (λa b c d e=>K (.exit 0) (o9 a b c d e))) (λa f g h i j b c d e k=>bN.Z11 N a f g h i j b c d e k (λa b c d e=>K (.exit 0) (o9 a b c d e))) (λF a f g h i j b c d e=>f81t11 N a f g h i j b c d e _) (by kernel_rfl)
def f81t10 N a b c d e f g h i j (K:KT J):=vL (iN a b c d e f g h i j) (f81t10L N (jK AA K) N a b c d e f g h i j) (by kernel_rfl)
def f81t9 N a f g h i j b c d e (K:KT J):=vB 0 AA K (bN.Z9 N a f g h i j b c d e (λa b c d e=>K .nrm (o9 a b c d e))) (f81t10 N a f g h i j b c d e _) (by kernel_rfl)
def f81t7 N a b c d e f g h i (K:KT J):=vQ (λk=>bN.Z8 N a b c d e f g h i k) (f81t8 N a b c d e f g h i _) (dA λa b j c d e f g h i=>f81t9 N a b j c d e f g h i K)
def f81t25 N c a b d e (K:KT J):jo N 31 (o9 c a b d e) f81lE K =
 bN.Z25 N c a b d e (λf g a b=>K .ret (AB f g a b)):=by kernel_rfl
def f81t6 N a f g h i b c d e (K:KT J):=vQ (λk=>bN.Z7 N a f g h i b c d e k) (f81t7 N a f g h i b c d e _) (cn λa b c d e=>f81t25 N a b c d e K)
def f81t4 N a b c d e f (K:KT J):=vQ (λk=>bN.Z5 N a b c d e f k) (f81t5 N a b c d e f _) (dT λg a b c d e f h i=>f81t6 N g a b c d e f h i K)
def f81t2 N c d e f a b (K:KT J):=vQ (λk=>bN.Z3 N c d e f a b k (λg h a b=>K .ret (AB g h a b))) (f81t3 N c d e f a b _) (cB λc d e f a b=>f81t4 N c d e f a b K)
def f81t0 N b a (K:KT J):=vQ (λk=>bN.Z1 N b a k) (f81t1 N b a _) (cB λa c d e f g=>f81t2 N a c d e f g K)
def f81ok(h:bN.Spec):aw Tryz.prog 81 Az :=
 bA Tryz.func81 a8 f81GOk (λN X K=>f81t0 N X.1 X.2.1 K) (by kernel_rfl) λX hb hp=>by obtain⟨a,b,_⟩:=X;obtain⟨N,h⟩:=h a b hb.1 hb.2.1;exact⟨N,Eq.trans (by kernel_rfl) (h N (Nat.le_refl N))⟩
def e81ok:aw Tryz.prog 81 Az:=f81ok bN.ok
end Go.Fw
namespace Go.Fw
variable {J : Type}
open Go.Proofs
variable [DC]
def Ie:ba:=⟨[⟨.int .i64,false,false⟩],[⟨.bool,false,false⟩]⟩
def AC:aQ:=⟨Ie,none,λX=>((),((jt.g X.1),()))⟩
def If:Gm:=aY
def f132GOk:ao Tryz.prog If:=ao.nil
def f132lE:ab:=⟨[],[],[],[],[]⟩
def f132s0(a:Int):St:=bu Ie.ps (a,())
def f132s1(a:Bool):St:=af [(2,xB a)] [] []
def f132l1:ab:=⟨[2],[],[],[],[]⟩
def f132B:Nat->Option ab:=aA [(1000000,f132l1)]
abbrev f132j{J:Type}(N n:Nat)(V:St)(l:ab)(K:KT J):Option J:=an If aZ f132B N (aT 99 (a7 Tryz.f132) n) .n V (ay (some l) K)
def f132t0 N a (K:KT J):f132j N 1 (f132s0 a) f132lE K =
 jt.Z0 N a (λb=>K .ret (f132s1 b)):=by kernel_rfl
def f132ok(h:jt.Spec):aw Tryz.prog 132 AC :=
 bA Tryz.func132 a8 f132GOk (λN X K=>f132t0 N X.1 K) (by kernel_rfl) λX hb hp=>by obtain⟨a,_⟩:=X;obtain⟨N,h⟩:=h a;exact⟨N,Eq.trans (by kernel_rfl) (h N (Nat.le_refl N))⟩
def e132ok:aw Tryz.prog 132 AC:=f132ok jt.ok
def Ig:ba:=⟨[⟨.int .i64,false,false⟩,⟨.int .i64,false,false⟩],[⟨.int .i64,false,false⟩]⟩
def AD:aQ:=⟨Ig,none,λX=>((),((iS.g X.1 X.2.1),()))⟩
def Ih:Gm:=aI aY 132 AC
def f95GOk:ao Tryz.prog Ih:=(ao.nil).add e132ok (by kernel_rfl)
def f95lE:ab:=⟨[],[],[],[],[]⟩
def f95s0(a b:Int):St:=bu Ig.ps (a,(b,()))
def f95s1(a:Int):St:=af [(4,xi a)] [] []
def f95l1:ab:=⟨[4],[],[],[],[]⟩
def f95B:Nat->Option ab:=aA [(1000000,f95l1)]
abbrev f95j{J:Type}(N n:Nat)(V:St)(l:ab)(K:KT J):Option J:=an Ih aZ f95B N (aT 99 (a7 Tryz.f95) n) .n V (ay (some l) K)
def f95t0 N a b (K:KT J):f95j N 1 (f95s0 a b) f95lE K =
 iS.Z0 N a b (λc=>K .ret (f95s1 c)):=by kernel_rfl
def f95ok(h:iS.Spec):aw Tryz.prog 95 AD :=
 bA Tryz.func95 a8 f95GOk (λN X K=>f95t0 N X.1 X.2.1 K) (by kernel_rfl) λX hb hp=>by obtain⟨a,b,_⟩:=X;obtain⟨N,h⟩:=h a b;exact⟨N,Eq.trans (by kernel_rfl) (h N (Nat.le_refl N))⟩
def e95ok:aw Tryz.prog 95 AD:=f95ok iS.ok
def Ii:ba:=⟨[⟨.sl 3 (.int .i64),false,false⟩,⟨.sl 3 (.int .i64),false,false⟩],[⟨.int .i64,false,false⟩]⟩
def uX:aQ:=⟨Ii,none,λX=>((),((eQ.g X.1 X.2.1),()))⟩
def Ij:Gm:=aI aY 95 AD
def f51GOk:ao Tryz.prog Ij:=(ao.nil).add e95ok (by kernel_rfl)
def f51lE:ab:=⟨[],[],[],[],[]⟩
def f51s0(a b:LI):St:=bu Ii.ps (a,(b,()))
def np(a b:LI):St:=af [(0,.c (.sn 3 tI a none)),(1,.c (.sn 3 tI b none))] [] []
def uY:ab:=⟨[0,1],[],[],[],[]⟩
def uZ(a b d:LI)(e f:Int):St:=af [(0,.c (.sn 3 tI a none)),(1,.c (.sn 3 tI b none)),(9,.c (.sn 3 tI d none)),(10,xi e),(11,xi f)] [] []
def Ik:ab:=⟨[0,1,9,10,11],[],[],[],[]⟩
def pc(a:Int):St:=af [(4,xi a)] [] []
def f51l3:ab:=⟨[4],[],[],[],[]⟩
def f51B:Nat->Option ab:=aA [(0,uY),(1000000,f51l3)]
abbrev u3{J:Type}(N n:Nat)(V:St)(l:ab)(K:KT J):Option J:=an Ij aZ f51B N (aT 99 (a7 Tryz.f51) n) .n V (ay (some l) K)
def f51t1 N a b (K:KT J):u3 N 2 (f51s0 a b) uY K =
 eQ.Z1 N a b (λa b=>K .nrm (np a b)):=by kernel_rfl
def f51t4 N a b (K:KT J):u3 N 9 (np a b) Ik K =
 eQ.Z4 N a b (λa b c d e=>K .nrm (uZ a b c d e)):=by kernel_rfl
def f51t7 N a b c d e (K:KT J):u3 N 37 (uZ a b c d e) Ik K =
 eQ.Z7 N a b c d e (λa b c d e=>K .nrm (uZ a b c d e)) (λa b=>K (.exit 0) (np a b)) (λf=>K .ret (pc f)):=by kernel_rfl
def f51t6L N (K:KT J):=mO K (eQ.Z6L N (λa b=>K (.exit 0) (np a b)) (λc=>K .ret (pc c))) (λa b d e f k=>eQ.Z7 N a b d e f k (λa b=>K (.exit 0) (np a b)) (λc=>K .ret (pc c))) (λF a b d e f=>f51t7 N a b d e f _) (by kernel_rfl)
def f51t6 N a b c d e (K:KT J):=vL (uZ a b c d e) (f51t6L N (jK uY K) N a b c d e) (by kernel_rfl)
def f51t5 N a b c d e (K:KT J):=vB 0 uY K (eQ.Z5 N a b c d e (λa b=>K .nrm (np a b)) (λf=>K .ret (pc f))) (f51t6 N a b c d e _) (by kernel_rfl)
def f51t3 N a b (K:KT J):=vQ (λk=>eQ.Z4 N a b k) (f51t4 N a b _) (cn λa b c d e=>f51t5 N a b c d e K)
def f51t8 N a b (K:KT J):u3 N 7 (np a b) f51lE K =
 eQ.Z8 N a b (λc=>K .ret (pc c)):=by kernel_rfl
def f51t2 N a b (K:KT J):=vQ (λk=>eQ.Z3 N a b k (λc=>K .ret (pc c))) (f51t3 N a b _) (cV λa b=>f51t8 N a b K)
def f51t0 N a b (K:KT J):=vQ (λk=>eQ.Z1 N a b k) (f51t1 N a b _) (cV λa b=>f51t2 N a b K)
def f51ok(h:eQ.Spec):aw Tryz.prog 51 uX :=
 bA Tryz.func51 a8 f51GOk (λN X K=>f51t0 N X.1 X.2.1 K) (by kernel_rfl) λX hb hp=>by obtain⟨a,b,_⟩:=X;obtain⟨N,h⟩:=h a b hb.1 hb.2.1;exact⟨N,Eq.trans (by kernel_rfl) (h N (Nat.le_refl N))⟩
def Il:aw Tryz.prog 51 uX:=f51ok eQ.ok
end Go.Fw
namespace Go.Fw
variable {J : Type}
open Go.Proofs
def Im:ba:=⟨[⟨.pair (.int .i64) (.pair (.int .i64) (.sl 3 (.int .i64))),true,false⟩],[⟨.pair (.int .i64) (.pair (.int .i64) (.sl 3 (.int .i64))),true,false⟩,⟨.bool,false,false⟩]⟩
def u4:aQ:=⟨Im,none,λX=>((),((cb.g X.1).1,((cb.g X.1).2,())))⟩
def In:Gm:=aI (aI (aI (aI aY 51 uX) 63 nn) 80 Aq) 81 Az
def f34GOk:ao Tryz.prog In:=((((ao.nil).add Il (by kernel_rfl)).add rC (by kernel_rfl)).add e80ok (by kernel_rfl)).add e81ok (by kernel_rfl)
def f34lE:ab:=⟨[],[],[],[],[]⟩
def f34s0(a:MT):St:=bu Im.ps (a,())
def u5(a b:Int)(c:LI)(d e:Int):St:=af [(1,xb 1),(2,xb 2)] [(1,(27,[yi a,yi b,.sn 3 tI c none])),(2,(27,[yi d,yi e,.nil]))] []
def Io:ab:=⟨[1,2],[1,2],[],[],[]⟩
def Ip(a b:Int)(c:LI)(d e f g:Int)(h:LI):St:=af [(1,xb 1),(2,xb 2),(4,xb 4)] [(1,(27,[yi a,yi b,.sn 3 tI c none])),(2,(27,[yi d,yi e,.nil])),(4,(27,[yi f,yi g,.sn 3 tI h none]))] []
def f34l2:ab:=⟨[1,2,4],[1,2,4],[],[],[]⟩
def AE(a:LL)(b c d e:Int)(f:LI)(g h i j:Int)(l:LI):St:=af [(1,xb 1),(2,xb 2),(4,xb 4),(23,xo 1001472),(24,xi b),(25,xi c)] [(1,(27,[yi d,yi e,.sn 3 tI f none])),(2,(27,[yi g,yi h,.nil])),(4,(27,[yi i,yi j,.sn 3 tI l none]))] [(1001472,(⟨22,.sl 3 tI,a,true,false⟩:ae))]
def Iq:ab:=⟨[1,2,4,23,24,25],[1,2,4],[],[],[(⟨false,23,0⟩,1001472)]⟩
def AF(a:LL)(b:LI)(c d e f:Int)(g:LI)(h i j l:Int):St:=af [(1,xb 1),(2,xb 2),(4,xb 4),(23,xo 1001472),(24,xi c),(25,xi d)] [(1,(27,[yi e,yi f,.sn 3 tI g none])),(2,(27,[yi h,yi i,.nil])),(4,(27,[yi j,yi l,.own 20000258]))] [(1001472,(⟨22,.sl 3 tI,a,true,false⟩:ae)),(20000258,(⟨3,.int .i64,b,true,false⟩:ae))]
def Ir:ab:=⟨[1,2,4,23,24,25],[1,2,4],[],[],[(⟨false,23,0⟩,1001472),(⟨true,4,2⟩,20000258)]⟩
def nq(a:LI)(b c d e:Int):St:=af [(2,xb 2),(4,xb 4)] [(2,(27,[yi b,yi c,.nil])),(4,(27,[yi d,yi e,.own 20000258]))] [(20000258,(⟨3,.int .i64,a,true,false⟩:ae))]
def AG:ab:=⟨[2,4],[2,4],[],[],[(⟨true,4,2⟩,20000258)]⟩
def AH(a:LI)(b:Bool)(c d:Int):St:=af [(2,xb 2),(3,xB b)] [(2,(27,[yi c,yi d,.own 20000130]))] [(20000130,(⟨3,.int .i64,a,true,false⟩:ae))]
def f34l6:ab:=⟨[2,3],[2],[⟨⟨true,2,2⟩,30000000,3,.int .i64,true⟩],[],[(⟨true,2,2⟩,20000130)]⟩
def f34B:Nat->Option ab:=aA [(0,AG),(1000000,f34l6)]
abbrev nr{J:Type}(N n:Nat)(V:St)(l:ab)(K:KT J):Option J:=an In aZ f34B N (aT 99 (a7 Tryz.f34) n) .n V (ay (some l) K)
def f34t1 N a (K:KT J):nr N 2 (f34s0 a) Io K =
 cb.Z1 N a (λb c d e f=>K .nrm (u5 b c d e f)):=by kernel_rfl
def f34t3 N c d e a b (K:KT J):nr N 5 (u5 c d e a b) Io K =
 cb.Z3 N c d e a b (λc d e a b=>K .nrm (u5 c d e a b)) (λf g a b=>K .ret (AH f g a b)):=by kernel_rfl
def f34t5 N a b c d e (K:KT J):nr N 11 (u5 a b c d e) f34l2 K =
 cb.Z5 N a b c d e (λa b c d e f g h=>K .nrm (Ip a b c d e f g h)):=by kernel_rfl
def f34t8 N a b c d e f g h (K:KT J):nr N 39 (Ip a b c d e f g h) Iq K =
 cb.Z8 N a b c d e f g h (λi j l a b c d e f g h=>K .nrm (AE i j l a b c d e f g h)):=by kernel_rfl
def f34t11 N f a g h i j l b c d e (K:KT J):nr N 151 (AF f a g h i j l b c d e) Ir K =
 cb.Z11 N f a g h i j l b c d e (λf a g h i j l b c d e=>K .nrm (AF f a g h i j l b c d e)) (λa b c d e=>K (.exit 0) (nq a b c d e)):=by kernel_rfl
def f34t12 N f g h i j l a b c d e (K:KT J):nr N 151 (AE f g h i j l a b c d e) Ir K =
 cb.Z12 N f g h i j l a b c d e (λf e g h i j l a b c d=>K .nrm (AF f e g h i j l a b c d)) (λe a b c d=>K (.exit 0) (nq e a b c d)):=by kernel_rfl
def f34t10L N (K:KT J):=oh K (cb.Z10L N (λa b c d e=>K (.exit 0) (nq a b c d e))) (λf a g h i j l b c d e k=>cb.Z11 N f a g h i j l b c d e k (λa b c d e=>K (.exit 0) (nq a b c d e))) (λF f a g h i j l b c d e=>f34t11 N f a g h i j l b c d e _) (by kernel_rfl)
def f34t10 N f g h i j l a b c d e (K:KT J):=vP (AE f g h i j l a b c d e) Iq (λk=>cb.Z12 N f g h i j l a b c d e k (λe a b c d=>K (.exit 0) (nq e a b c d))) (f34t12 N f g h i j l a b c d e _) (fQ λf e g h i j l a b c d=>f34t10L N (jK AG K) N f e g h i j l a b c d) (by kernel_rfl)
def f34t9 N f g h i j l a b c d e (K:KT J):=vB 0 AG K (cb.Z9 N f g h i j l a b c d e (λe a b c d=>K .nrm (nq e a b c d))) (f34t10 N f g h i j l a b c d e _) (by kernel_rfl)
def f34t7 N a b c d e f g h (K:KT J):=vQ (λk=>cb.Z8 N a b c d e f g h k) (f34t8 N a b c d e f g h _) (fQ λi j l a b c d e f g h=>f34t9 N i j l a b c d e f g h K)
def f34t13 N c a b d e (K:KT J):nr N 31 (nq c a b d e) f34lE K =
 cb.Z13 N c a b d e (λf g a b=>K .ret (AH f g a b)):=by kernel_rfl
def f34t6 N f g h a b c d e (K:KT J):=vQ (λk=>cb.Z7 N f g h a b c d e k) (f34t7 N f g h a b c d e _) (cn λe a b c d=>f34t13 N e a b c d K)
def f34t4 N a b c d e (K:KT J):=vQ (λk=>cb.Z5 N a b c d e k) (f34t5 N a b c d e _) (du λa b c d e f g h=>f34t6 N a b c d e f g h K)
def f34t2 N c d e a b (K:KT J):=vQ (λk=>cb.Z3 N c d e a b k (λf g a b=>K .ret (AH f g a b))) (f34t3 N c d e a b _) (cn λc d e a b=>f34t4 N c d e a b K)
def f34t0 N a (K:KT J):=vQ (λk=>cb.Z1 N a k) (f34t1 N a _) (cn λb c d e f=>f34t2 N b c d e f K)
def f34ok(h:cb.Spec):aw Tryz.prog 34 u4 :=
 bA Tryz.func34 a8 f34GOk (λN X K=>f34t0 N X.1 K) (by kernel_rfl) λX hb hp=>by obtain⟨a,_⟩:=X;obtain⟨N,h⟩:=h a hb.1;exact⟨N,Eq.trans (by kernel_rfl) (h N (Nat.le_refl N))⟩
def Is:aw Tryz.prog 34 u4:=f34ok cb.ok
def f121sig:ba:=⟨[⟨.int .i64,false,false⟩],[⟨.str,false,false⟩]⟩
def AI:aQ:=⟨f121sig,(some λX=>strconv_Itoa.P X.1),λX=>((),((strconv_Itoa.g X.1),()))⟩
def z00:Go.Shelf.Ren:=⟨λ|171=>121|243=>159|246=>183|283=>195|284=>196|285=>197|286=>198|129=>131|317=>203|318=>204|319=>205|320=>206|337=>207|338=>208|n=>n,λ|3=>3|9=>9|2=>2|4=>4|171=>184|0=>0|53=>132|37=>37|5=>5|173=>186|212=>199|51=>130|20=>20|213=>200|46=>96|232=>201|233=>202|n=>n,λ|17=>5|18=>6|19=>7|n=>n⟩
def f121lay:LaysM.n171 Tryz.prog z00:={ mixed:=(by kernel_rfl),f129:=Tryz.func131.trans (congrArg some (by kernel_rfl)),f171:=Tryz.func121.trans (congrArg some (by kernel_rfl)),f243:=Tryz.func159.trans (congrArg some (by kernel_rfl)),f246:=Tryz.func183.trans (congrArg some (by kernel_rfl)),f283:=Tryz.func195.trans (congrArg some (by kernel_rfl)),f284:=Tryz.func196.trans (congrArg some (by kernel_rfl)),f285:=Tryz.func197.trans (congrArg some (by kernel_rfl)),f286:=Tryz.func198.trans (congrArg some (by kernel_rfl)),f317:=Tryz.func203.trans (congrArg some (by kernel_rfl)),f318:=Tryz.func204.trans (congrArg some (by kernel_rfl)),f319:=Tryz.func205.trans (congrArg some (by kernel_rfl)),f320:=Tryz.func206.trans (congrArg some (by kernel_rfl)),f337:=Tryz.func207.trans (congrArg some (by kernel_rfl)),f338:=Tryz.func208.trans (congrArg some (by kernel_rfl)),t0:=Tryz.underlying0,a0:=Tryz.isAgg0,z0:=Tryz.sizeOf0,v0:=Tryz.zeroValue0,t2:=Tryz.underlying2,a2:=Tryz.isAgg2,z2:=Tryz.sizeOf2,v2:=Tryz.zeroValue2,t3:=Tryz.underlying3,a3:=Tryz.isAgg3,z3:=Tryz.sizeOf3,v3:=Tryz.zeroValue3,t4:=Tryz.underlying4,a4:=Tryz.isAgg4,z4:=Tryz.sizeOf4,v4:=Tryz.zeroValue4,t5:=Tryz.underlying5,a5:=Tryz.isAgg5,z5:=Tryz.sizeOf5,v5:=Tryz.zeroValue5,t9:=Tryz.underlying9,a9:=Tryz.isAgg9,z9:=Tryz.sizeOf9,v9:=Tryz.zeroValue9,t20:=Tryz.underlying20,a20:=Tryz.isAgg20,z20:=Tryz.sizeOf20,v20:=Tryz.zeroValue20,t37:=Tryz.underlying37,a37:=Tryz.isAgg37,z37:=Tryz.sizeOf37,v37:=Tryz.zeroValue37,t46:=Tryz.underlying96,a46:=Tryz.isAgg96,z46:=Tryz.sizeOf96,v46:=Tryz.zeroValue96,t51:=Tryz.underlying130,a51:=Tryz.isAgg130,z51:=Tryz.sizeOf130,v51:=Tryz.zeroValue130,t53:=Tryz.underlying132,a53:=Tryz.isAgg132,z53:=Tryz.sizeOf132,v53:=Tryz.zeroValue132,t171:=Tryz.underlying184,a171:=Tryz.isAgg184,z171:=Tryz.sizeOf184,v171:=Tryz.zeroValue184,t173:=Tryz.underlying186,a173:=Tryz.isAgg186,z173:=Tryz.sizeOf186,v173:=Tryz.zeroValue186,t212:=Tryz.underlying199,a212:=Tryz.isAgg199,z212:=Tryz.sizeOf199,v212:=Tryz.zeroValue199,t213:=Tryz.underlying200,a213:=Tryz.isAgg200,z213:=Tryz.sizeOf200,t232:=Tryz.underlying201,a232:=Tryz.isAgg201,z232:=Tryz.sizeOf201,v232:=Tryz.zeroValue201,t233:=Tryz.underlying202,a233:=Tryz.isAgg202,z233:=Tryz.sizeOf202,v233:=Tryz.zeroValue202,g17:=(by kernel_rfl),g18:=(by kernel_rfl),g19:=(by kernel_rfl),i0:=(by kernel_rfl),i2:=(by kernel_rfl),i3:=(by kernel_rfl),i4:=(by kernel_rfl),i5:=(by kernel_rfl),i9:=(by kernel_rfl),i20:=(by kernel_rfl),i37:=(by kernel_rfl),i46:=(by kernel_rfl),i51:=(by kernel_rfl),i53:=(by kernel_rfl),i171:=(by kernel_rfl),i173:=(by kernel_rfl),i212:=(by kernel_rfl),i232:=(by kernel_rfl),i233:=(by kernel_rfl),m17:=(by kernel_rfl),m18:=(by kernel_rfl),m19:=(by kernel_rfl) }
def f121ok(_:True):aw Tryz.prog 121 AI:=M7 Pn f121lay
def e121ok:aw Tryz.prog 121 AI:=f121ok strconv_Itoa.ok
def It:ba:=⟨[⟨.int .i64,false,false⟩],[⟨.str,false,false⟩]⟩
def AJ:aQ:=⟨It,(some λX=>gJ.P X.1),λX=>((),((gJ.g X.1),()))⟩
def Iu:Gm:=aI aY 121 AI
def f90GOk:ao Tryz.prog Iu:=(ao.nil).add e121ok (by kernel_rfl)
def f90lE:ab:=⟨[],[],[],[],[]⟩
def f90s0(a:Int):St:=bu It.ps (a,())
def f90s1(a:ByteArray):St:=af [(2,.c (.str a))] [] []
def f90l1:ab:=⟨[2],[],[],[],[]⟩
def f90B:Nat->Option ab:=aA [(1000000,f90l1)]
abbrev f90j{J:Type}(N n:Nat)(V:St)(l:ab)(K:KT J):Option J:=an Iu aZ f90B N (aT 99 (a7 Tryz.f90) n) .n V (ay (some l) K)
def f90t0 N a (K:KT J):f90j N 1 (f90s0 a) f90lE K =
 gJ.Z0 N a (λb=>K .ret (f90s1 b)):=by kernel_rfl
def f90ok(h:gJ.Spec):aw Tryz.prog 90 AJ :=
 bA Tryz.func90 a8 f90GOk (λN X K=>f90t0 N X.1 K) (by kernel_rfl) λX hb hp=>by obtain⟨a,_⟩:=X;obtain⟨N,h⟩:=h a hp;exact⟨N,Eq.trans (by kernel_rfl) (h N (Nat.le_refl N))⟩
def e90ok:aw Tryz.prog 90 AJ:=f90ok gJ.ok
def f79sig:ba:=⟨[⟨.sl 9 (.str),false,false⟩,⟨.str,false,false⟩],[⟨.str,false,false⟩]⟩
def u6:aQ:=⟨f79sig,(some λX=>strings_Join.P X.1 X.2.1),λX=>((),((strings_Join.g X.1 X.2.1),()))⟩
def Iv:Go.Shelf.Ren:=⟨λ|156=>79|165=>112|166=>113|169=>114|240=>153|241=>154|276=>179|277=>180|n=>n,λ|31=>70|9=>9|3=>3|4=>4|0=>0|20=>20|72=>114|76=>104|70=>112|37=>37|75=>103|127=>147|164=>169|5=>5|80=>116|n=>n,λn=>n⟩
def f79lay:Lays.n156 Tryz.prog Iv:={ mixed:=(by kernel_rfl),f156:=Tryz.func79.trans (congrArg some (by kernel_rfl)),f165:=Tryz.func112.trans (congrArg some (by kernel_rfl)),f166:=Tryz.func113.trans (congrArg some (by kernel_rfl)),f169:=Tryz.func114.trans (congrArg some (by kernel_rfl)),f240:=Tryz.func153.trans (congrArg some (by kernel_rfl)),f241:=Tryz.func154.trans (congrArg some (by kernel_rfl)),f276:=Tryz.func179.trans (congrArg some (by kernel_rfl)),f277:=Tryz.func180.trans (congrArg some (by kernel_rfl)),t0:=Tryz.underlying0,a0:=Tryz.isAgg0,z0:=Tryz.sizeOf0,v0:=Tryz.zeroValue0,t3:=Tryz.underlying3,a3:=Tryz.isAgg3,z3:=Tryz.sizeOf3,v3:=Tryz.zeroValue3,t4:=Tryz.underlying4,a4:=Tryz.isAgg4,z4:=Tryz.sizeOf4,v4:=Tryz.zeroValue4,t9:=Tryz.underlying9,a9:=Tryz.isAgg9,z9:=Tryz.sizeOf9,v9:=Tryz.zeroValue9,t20:=Tryz.underlying20,a20:=Tryz.isAgg20,z20:=Tryz.sizeOf20,v20:=Tryz.zeroValue20,t31:=Tryz.underlying70,a31:=Tryz.isAgg70,z31:=Tryz.sizeOf70,v31:=Tryz.zeroValue70,t37:=Tryz.underlying37,a37:=Tryz.isAgg37,z37:=Tryz.sizeOf37,v37:=Tryz.zeroValue37,t70:=Tryz.underlying112,a70:=Tryz.isAgg112,z70:=Tryz.sizeOf112,v70:=Tryz.zeroValue112,t72:=Tryz.underlying114,a72:=Tryz.isAgg114,z72:=Tryz.sizeOf114,v72:=Tryz.zeroValue114,t75:=Tryz.underlying103,a75:=Tryz.isAgg103,z75:=Tryz.sizeOf103,v75:=Tryz.zeroValue103,t76:=Tryz.underlying104,a76:=Tryz.isAgg104,z76:=Tryz.sizeOf104,v76:=Tryz.zeroValue104,t127:=Tryz.underlying147,a127:=Tryz.isAgg147,z127:=Tryz.sizeOf147,v127:=Tryz.zeroValue147,t164:=Tryz.underlying169,a164:=Tryz.isAgg169,z164:=Tryz.sizeOf169,v164:=Tryz.zeroValue169 }
def f79layX:Builder.Extra Tryz.prog Iv:={ sizeBuilder:=(by kernel_rfl),liesBuilder:=(by kernel_rfl),t5:=Tryz.underlying5,a5:=Tryz.isAgg5,z5:=Tryz.sizeOf5,v5:=Tryz.zeroValue5,infoByte:=(by kernel_rfl),cellsByte:=(by kernel_rfl),sizeByte:=(by kernel_rfl),neB5:=(by decide) }
def f79ok(_:True):aw Tryz.prog 79 u6:=M9 f79lay f79layX
def Iw:aw Tryz.prog 79 u6:=f79ok strings_Join.ok
def Ix:ba:=⟨[⟨.sl 3 (.int .i64),false,false⟩],[⟨.str,false,false⟩]⟩
def AK:aQ:=⟨Ix,(some λX=>dn.P X.1),λX=>((),((dn.g X.1),()))⟩
def Iy:Gm:=aI (aI aY 79 u6) 90 AJ
def f47GOk:ao Tryz.prog Iy:=((ao.nil).add Iw (by kernel_rfl)).add e90ok (by kernel_rfl)
def f47lE:ab:=⟨[],[],[],[],[]⟩
def f47s0(a:LI):St:=bu Ix.ps (a,())
def Iz(a:LI):St:=af [(0,.c (.sn 3 tI a none))] [] []
def f47l1:ab:=⟨[0],[],[],[],[]⟩
def IA(a:LI):St:=af [(0,.c (.sn 3 tI a none)),(3,.c (.nil))] [] []
def f47l2:ab:=⟨[0,3],[],[],[],[]⟩
def IB(a:LI)(b d:Int):St:=af [(3,.c (.nil)),(6,.c (.sn 3 tI a none)),(7,xi b),(8,xi d)] [] []
def f47l3:ab:=⟨[3,6,7,8],[],[],[],[]⟩
def IC(a:List ByteArray)(b:LI)(d e:Int):St:=af [(3,xo 1000192),(6,.c (.sn 3 tI b none)),(7,xi d),(8,xi e)] [] [(1000192,(⟨9,.str,a,true,false⟩:ae))]
def f47l4:ab:=⟨[3,6,7,8],[],[⟨⟨false,3,0⟩,30000000,9,.str,true⟩],[],[(⟨false,3,0⟩,1000192)]⟩
def rG(a:List ByteArray):St:=af [(3,xo 1000192)] [] [(1000192,(⟨9,.str,a,true,false⟩:ae))]
def AL:ab:=⟨[3],[],[],[],[(⟨false,3,0⟩,1000192)]⟩
def f47s6(a:ByteArray):St:=af [(2,.c (.str a))] [] []
def f47l6:ab:=⟨[2],[],[],[],[]⟩
def f47B:Nat->Option ab:=aA [(0,AL),(1000000,f47l6)]
abbrev rH{J:Type}(N n:Nat)(V:St)(l:ab)(K:KT J):Option J:=an Iy aZ f47B N (aT 99 (a7 Tryz.f47) n) .n V (ay (some l) K)
def f47t1 N a (K:KT J):rH N 2 (f47s0 a) f47l1 K =
 dn.Z1 N a (λa=>K .nrm (Iz a)):=by kernel_rfl
def f47t3 N a (K:KT J):rH N 5 (Iz a) f47l2 K =
 dn.Z3 N a (λa=>K .nrm (IA a)):=by kernel_rfl
def f47t6 N a (K:KT J):rH N 19 (IA a) f47l3 K =
 dn.Z6 N a (λb c d=>K .nrm (IB b c d)):=by kernel_rfl
def f47t9 N a b c d (K:KT J):rH N 75 (IC a b c d) f47l4 K =
 dn.Z9 N a b c d (λa b c d=>K .nrm (IC a b c d)) (λa=>K (.exit 0) (rG a)):=by kernel_rfl
def f47t8L N (K:KT J):=mN K (dn.Z8L N (λa=>K (.exit 0) (rG a))) (λa b c d k=>dn.Z9 N a b c d k (λa=>K (.exit 0) (rG a))) (λF a b c d=>f47t9 N a b c d _) (by kernel_rfl)
def f47t8 N a b c (K:KT J):=vL (IB a b c) (f47t8L N (jK AL K) N ([]:List ByteArray) a b c) (by kernel_rfl)
def f47t7 N a b c (K:KT J):=vB 0 AL K (dn.Z7 N a b c (λd=>K .nrm (rG d))) (f47t8 N a b c _) (by kernel_rfl)
def f47t5 N a (K:KT J):=vQ (λk=>dn.Z6 N a k) (f47t6 N a _) (cF λb c d=>f47t7 N b c d K)
def f47t10 N a (K:KT J):rH N 15 (rG a) f47lE K =
 dn.Z10 N a (λb=>K .ret (f47s6 b)):=by kernel_rfl
def f47t4 N a (K:KT J):=vQ (λk=>dn.Z5 N a k) (f47t5 N a _) (funext λb=>f47t10 N b K)
def f47t2 N a (K:KT J):=vQ (λk=>dn.Z3 N a k) (f47t3 N a _) (funext λa=>f47t4 N a K)
def f47t0 N a (K:KT J):=vQ (λk=>dn.Z1 N a k) (f47t1 N a _) (funext λa=>f47t2 N a K)
def f47ok(h:dn.Spec):aw Tryz.prog 47 AK :=
 bA Tryz.func47 a8 f47GOk (λN X K=>f47t0 N X.1 K) (by kernel_rfl) λX hb hp=>by obtain⟨a,_⟩:=X;obtain⟨N,h⟩:=h a hb.1 hp;exact⟨N,Eq.trans (by kernel_rfl) (h N (Nat.le_refl N))⟩
def e47ok:aw Tryz.prog 47 AK:=f47ok dn.ok
def ID:ba:=⟨[⟨.pair (.int .i64) (.pair (.int .i64) (.sl 3 (.int .i64))),true,false⟩,⟨.int .i64,false,false⟩],[⟨.pair (.int .i64) (.pair (.int .i64) (.sl 3 (.int .i64))),true,false⟩]⟩
def AM:aQ:=⟨ID,(some λX=>bQ.P X.1 X.2.1),λX=>((),((bQ.g X.1 X.2.1),()))⟩
def IE:Gm:=aI (aI aY 69 oY) 83 oU
def f92GOk:ao Tryz.prog IE:=((ao.nil).add uO (by kernel_rfl)).add uG (by kernel_rfl)
def f92lE:ab:=⟨[],[],[],[],[]⟩
def f92s0(a:MT)(b:Int):St:=bu ID.ps (a,(b,()))
def IF(a b c:Int)(d:LI)(e f:Int):St:=af [(1,xi a),(2,xb 2),(4,xb 4)] [(2,(27,[yi b,yi c,.sn 3 tI d none])),(4,(27,[yi e,yi f,.nil]))] []
def f92l1:ab:=⟨[1,2,4],[2,4],[],[],[]⟩
def IG(a:LI)(b c d:Int)(e:LI)(f g h i:Int):St:=af [(1,xi b),(2,xb 2),(4,xb 4),(5,xb 5)] [(2,(27,[yi c,yi d,.sn 3 tI e none])),(4,(27,[yi f,yi g,.nil])),(5,(27,[yi h,yi i,.own 20000322]))] [(20000322,(⟨3,.int .i64,a,true,false⟩:ae))]
def f92l2:ab:=⟨[1,2,4,5],[2,4,5],[],[],[(⟨true,5,2⟩,20000322)]⟩
def il(a:LI)(b c d e:Int)(f:LI)(g h i j:Int):St:=af [(1,xi b),(2,xb 2),(4,xb 4),(5,xb 5),(6,xi c)] [(2,(27,[yi d,yi e,.sn 3 tI f none])),(4,(27,[yi g,yi h,.nil])),(5,(27,[yi i,yi j,.own 20000322]))] [(20000322,(⟨3,.int .i64,a,true,false⟩:ae))]
def lR:ab:=⟨[1,2,4,5,6],[2,4,5],[],[],[(⟨true,5,2⟩,20000322)]⟩
def jS(a:LI)(b c d e f:Int)(g:LI)(h i j l:Int):St:=af [(1,xi b),(2,xb 2),(4,xb 4),(5,xb 5),(6,xi c),(7,xi d)] [(2,(27,[yi e,yi f,.sn 3 tI g none])),(4,(27,[yi h,yi i,.nil])),(5,(27,[yi j,yi l,.own 20000322]))] [(20000322,(⟨3,.int .i64,a,true,false⟩:ae))]
def lS:ab:=⟨[1,2,4,5,6,7],[2,4,5],[],[],[(⟨true,5,2⟩,20000322)]⟩
def IH(a:LI)(b d e f g h:Int)(i:LI)(j l m o:Int):St:=af [(1,xi b),(2,xb 2),(4,xb 4),(5,xb 5),(6,xi d),(7,xi e),(8,.c (.elt 20000322 f 0))] [(2,(27,[yi g,yi h,.sn 3 tI i none])),(4,(27,[yi j,yi l,.nil])),(5,(27,[yi m,yi o,.own 20000322]))] [(20000322,(⟨3,.int .i64,a,true,false⟩:ae))]
def f92l5:ab:=⟨[1,2,4,5,6,7,8],[2,4,5],[],[],[(⟨true,5,2⟩,20000322)]⟩
def II(a:LI)(b d e f g h i j:Int)(l:LI)(m o p q:Int):St:=af [(1,xi b),(2,xb 2),(4,xb 4),(5,xb 5),(6,xi d),(7,xi e),(8,.c (.elt 20000322 f 0)),(9,xi g),(10,xi h)] [(2,(27,[yi i,yi j,.sn 3 tI l none])),(4,(27,[yi m,yi o,.nil])),(5,(27,[yi p,yi q,.own 20000322]))] [(20000322,(⟨3,.int .i64,a,true,false⟩:ae))]
def f92l6:ab:=⟨[1,2,4,5,6,7,8,9,10],[2,4,5],[],[],[(⟨true,5,2⟩,20000322)]⟩
def IJ(a:LI)(b d e f g h:Int)(i:Bool)(j l:Int)(m:LI)(o p q r:Int):St:=af [(1,xi b),(2,xb 2),(4,xb 4),(5,xb 5),(6,xi d),(7,xi e),(8,.c (.elt 20000322 f 0)),(9,xi g),(10,xi h),(48,xB i)] [(2,(27,[yi j,yi l,.sn 3 tI m none])),(4,(27,[yi o,yi p,.nil])),(5,(27,[yi q,yi r,.own 20000322]))] [(20000322,(⟨3,.int .i64,a,true,false⟩:ae))]
def f92l7:ab:=⟨[1,2,4,5,6,7,8,9,10,48],[2,4,5],[],[],[(⟨true,5,2⟩,20000322)]⟩
def pf(a:LI)(b c d e:Int):St:=af [(4,xb 4),(5,xb 5)] [(4,(27,[yi b,yi c,.nil])),(5,(27,[yi d,yi e,.own 20000322]))] [(20000322,(⟨3,.int .i64,a,true,false⟩:ae))]
def AN:ab:=⟨[4,5],[4,5],[],[],[(⟨true,5,2⟩,20000322)]⟩
def f92s9(a:LI)(b c:Int):St:=af [(4,xb 4)] [(4,(27,[yi b,yi c,.own 20000258]))] [(20000258,(⟨3,.int .i64,a,true,false⟩:ae))]
def f92l9:ab:=⟨[4],[4],[],[],[(⟨true,4,2⟩,20000258)]⟩
def f92B:Nat->Option ab:=aA [(4,lS),(3,lS),(2,lR),(1,lR),(0,AN),(1000000,f92l9)]
abbrev ip{J:Type}(N n:Nat)(V:St)(l:ab)(K:KT J):Option J:=an IE aZ f92B N (aT 99 (a7 Tryz.f92) n) .n V (ay (some l) K)
def f92t1 N b a (K:KT J):ip N 2 (f92s0 b a) f92l1 K =
 bQ.Z1 N b a (λa c d e f g=>K .nrm (IF a c d e f g)):=by kernel_rfl
def f92t3 N a b c d e f (K:KT J):ip N 5 (IF a b c d e f) f92l2 K =
 bQ.Z3 N a b c d e f (λg a b c d e f h i=>K .nrm (IG g a b c d e f h i)):=by kernel_rfl
def f92t6 N a b c d e f g h i (K:KT J):ip N 19 (IG a b c d e f g h i) lR K =
 bQ.Z6 N a b c d e f g h i (λa b j c d e f g h i=>K .nrm (il a b j c d e f g h i)):=by kernel_rfl
def f92t10 N a f g h i j b c d e (K:KT J):ip N 139 (il a f g h i j b c d e) lR K =
 bQ.Z10 N a f g h i j b c d e (λa f g h i j b c d e=>K .nrm (il a f g h i j b c d e)) (λa b c d e=>K (.exit 0) (pf a b c d e)):=by kernel_rfl
def f92t14 N a b c d e f g h i j (K:KT J):ip N 1099 (il a b c d e f g h i j) lS K =
 bQ.Z14 N a b c d e f g h i j (λa b c l d e f g h i j=>K .nrm (jS a b c l d e f g h i j)):=by kernel_rfl
def f92t18 N a b c l d e f g h i j (K:KT J):ip N 8779 (jS a b c l d e f g h i j) lS K =
 bQ.Z18 N a b c l d e f g h i j (λa b c l d e f g h i j=>K .nrm (jS a b c l d e f g h i j)) (λa b c d e f g h i j=>K (.exit 2) (il a b c d e f g h i j)):=by kernel_rfl
def f92t22 N a b c d e f g h i j l (K:KT J):ip N 70219 (jS a b c d e f g h i j l) f92l5 K =
 bQ.Z22 N a b c d e f g h i j l (λa b c d m e f g h i j l=>K .nrm (IH a b c d m e f g h i j l)):=by kernel_rfl
def f92t24 N a b c d e f g h i j l m (K:KT J):ip N 168523 (IH a b c d e f g h i j l m) f92l6 K =
 bQ.Z24 N a b c d e f g h i j l m (λa b c d e o p f g h i j l m=>K .nrm (II a b c d e o p f g h i j l m)):=by kernel_rfl
def f92t27 N a b c d e f g h i j l m o p (K:KT J):ip N 627275 (II a b c d e f g h i j l m o p) f92l7 K =
 bQ.Z27 N a b c d e f g h i j l m o p (λa b c d e f g q h i j l m o p=>K .nrm (IJ a b c d e f g q h i j l m o p)):=by kernel_rfl
def f92t28 N a b c d m o p q e f g h i j l (K:KT J):ip N 889419 (IJ a b c d m o p q e f g h i j l) lS K =
 bQ.Z28 N a b c d m o p q e f g h i j l (λa b c d e f g h i j l=>K .nrm (jS a b c d e f g h i j l)):=by kernel_rfl
def f92t26 N a b c d e f g h i j l m o p (K:KT J):=vQ (λk=>bQ.Z27 N a b c d e f g h i j l m o p k) (f92t27 N a b c d e f g h i j l m o p _) (ME λa b c d e f g q h i j l m o p=>f92t28 N a b c d e f g q h i j l m o p K)
def f92t25 N a b c d m o p e f g h i j l (K:KT J):=vB 4 lS K (bQ.Z25 N a b c d m o p e f g h i j l (λa b c d e f g h i j l=>K .nrm (jS a b c d e f g h i j l))) (f92t26 N a b c d m o p e f g h i j l _) (by kernel_rfl)
def f92t23 N a b c d e f g h i j l m (K:KT J):=vQ (λk=>bQ.Z24 N a b c d e f g h i j l m k) (f92t24 N a b c d e f g h i j l m _) (td λa b c d e o p f g h i j l m=>f92t25 N a b c d e o p f g h i j l m K)
def f92t21 N a b c d e f g h i j l (K:KT J):=vQ (λk=>bQ.Z22 N a b c d e f g h i j l k) (f92t22 N a b c d e f g h i j l _) (og λa b c d m e f g h i j l=>f92t23 N a b c d m e f g h i j l K)
def f92t20 N a b c d e f g h i j l (K:KT J):=vB 3 lS K (bQ.Z20 N a b c d e f g h i j l (λa b c d e f g h i j l=>K .nrm (jS a b c d e f g h i j l))) (f92t21 N a b c d e f g h i j l _) (by kernel_rfl)
def f92t29 N a b c d e f g h i j l (K:KT J):ip N 29259 (jS a b c d e f g h i j l) lS K =
 bQ.Z29 N a b c d e f g h i j l (λa b c d e f g h i j l=>K .nrm (jS a b c d e f g h i j l)):=by kernel_rfl
def f92t19 N a b c d e f g h i j l (K:KT J):=vQ (λk=>bQ.Z20 N a b c d e f g h i j l k) (f92t20 N a b c d e f g h i j l _) (fQ λa b c d e f g h i j l=>f92t29 N a b c d e f g h i j l K)
def f92t17 N a b c l d e f g h i j (K:KT J):=vQ (λk=>bQ.Z18 N a b c l d e f g h i j k (λa b c d e f g h i j=>K (.exit 2) (il a b c d e f g h i j))) (f92t18 N a b c l d e f g h i j _) (fQ λa b c l d e f g h i j=>f92t19 N a b c l d e f g h i j K)
def f92t16L N (K:KT J):=oh K (bQ.Z16L N (λa b c d e f g h i j=>K (.exit 2) (il a b c d e f g h i j))) (λa b c l d e f g h i j k=>bQ.Z17 N a b c l d e f g h i j k (λa b c d e f g h i j=>K (.exit 2) (il a b c d e f g h i j))) (λF a b c l d e f g h i j=>f92t17 N a b c l d e f g h i j _) (by kernel_rfl)
def f92t16 N a b c d e f g h i j l (K:KT J):=vL (jS a b c d e f g h i j l) (f92t16L N (jK lR K) N a b c d e f g h i j l) (by kernel_rfl)
def f92t15 N a b c l d e f g h i j (K:KT J):=vB 2 lR K (bQ.Z15 N a b c l d e f g h i j (λa b c d e f g h i j=>K .nrm (il a b c d e f g h i j))) (f92t16 N a b c l d e f g h i j _) (by kernel_rfl)
def f92t13 N a b c d e f g h i j (K:KT J):=vQ (λk=>bQ.Z14 N a b c d e f g h i j k) (f92t14 N a b c d e f g h i j _) (fQ λa b c l d e f g h i j=>f92t15 N a b c l d e f g h i j K)
def f92t12 N a b c d e f g h i j (K:KT J):=vB 1 lR K (bQ.Z12 N a b c d e f g h i j (λa b c d e f g h i j=>K .nrm (il a b c d e f g h i j))) (f92t13 N a b c d e f g h i j _) (by kernel_rfl)
def f92t30 N a b c d e f g h i j (K:KT J):ip N 459 (il a b c d e f g h i j) lR K =
 bQ.Z30 N a b c d e f g h i j (λa b c d e f g h i j=>K .nrm (il a b c d e f g h i j)):=by kernel_rfl
def f92t11 N a b c d e f g h i j (K:KT J):=vQ (λk=>bQ.Z12 N a b c d e f g h i j k) (f92t12 N a b c d e f g h i j _) (dA λa b c d e f g h i j=>f92t30 N a b c d e f g h i j K)
def f92t9 N a f g h i j b c d e (K:KT J):=vQ (λk=>bQ.Z10 N a f g h i j b c d e k (λa b c d e=>K (.exit 0) (pf a b c d e))) (f92t10 N a f g h i j b c d e _) (dA λa f g h i j b c d e=>f92t11 N a f g h i j b c d e K)
def f92t8L N (K:KT J):=jC K (bQ.Z8L N (λa b c d e=>K (.exit 0) (pf a b c d e))) (λa f g h i j b c d e k=>bQ.Z9 N a f g h i j b c d e k (λa b c d e=>K (.exit 0) (pf a b c d e))) (λF a f g h i j b c d e=>f92t9 N a f g h i j b c d e _) (by kernel_rfl)
def f92t8 N a b c d e f g h i j (K:KT J):=vL (il a b c d e f g h i j) (f92t8L N (jK AN K) N a b c d e f g h i j) (by kernel_rfl)
def f92t7 N a f g h i j b c d e (K:KT J):=vB 0 AN K (bQ.Z7 N a f g h i j b c d e (λa b c d e=>K .nrm (pf a b c d e))) (f92t8 N a f g h i j b c d e _) (by kernel_rfl)
def f92t5 N a b c d e f g h i (K:KT J):=vQ (λk=>bQ.Z6 N a b c d e f g h i k) (f92t6 N a b c d e f g h i _) (dA λa b j c d e f g h i=>f92t7 N a b j c d e f g h i K)
def f92t31 N c a b d e (K:KT J):ip N 15 (pf c a b d e) f92lE K =
 bQ.Z31 N c a b d e (λf a b=>K .ret (f92s9 f a b)):=by kernel_rfl
def f92t4 N a f g h i b c d e (K:KT J):=vQ (λk=>bQ.Z5 N a f g h i b c d e k) (f92t5 N a f g h i b c d e _) (cn λa b c d e=>f92t31 N a b c d e K)
def f92t2 N a b c d e f (K:KT J):=vQ (λk=>bQ.Z3 N a b c d e f k) (f92t3 N a b c d e f _) (dT λg a b c d e f h i=>f92t4 N g a b c d e f h i K)
def f92t0 N b a (K:KT J):=vQ (λk=>bQ.Z1 N b a k) (f92t1 N b a _) (cB λa c d e f g=>f92t2 N a c d e f g K)
def f92ok(h:bQ.Spec):aw Tryz.prog 92 AM :=
 bA Tryz.func92 a8 f92GOk (λN X K=>f92t0 N X.1 X.2.1 K) (by kernel_rfl) λX hb hp=>by obtain⟨a,b,_⟩:=X;obtain⟨N,h⟩:=h a b hb.1 hp;exact⟨N,Eq.trans (by kernel_rfl) (h N (Nat.le_refl N))⟩
def e92ok:aw Tryz.prog 92 AM:=f92ok bQ.ok
def IK:ba:=⟨[⟨.pair (.int .i64) (.pair (.int .i64) (.sl 3 (.int .i64))),true,false⟩,⟨.int .i64,false,false⟩],[⟨.pair (.int .i64) (.pair (.int .i64) (.sl 3 (.int .i64))),true,false⟩,⟨.bool,false,false⟩]⟩
def u7:aQ:=⟨IK,none,λX=>((),((cu.g X.1 X.2.1).1,((cu.g X.1 X.2.1).2,())))⟩
def IL:Gm:=aI (aI (aI aY 63 nn) 91 oS) 92 AM
def f48GOk:ao Tryz.prog IL:=(((ao.nil).add rC (by kernel_rfl)).add uD (by kernel_rfl)).add e92ok (by kernel_rfl)
def f48lE:ab:=⟨[],[],[],[],[]⟩
def f48s0(a:MT)(b:Int):St:=bu IK.ps (a,(b,()))
def f48s1(a:LI)(b:Bool)(c d:Int):St:=af [(4,xb 4),(5,xB b)] [(4,(27,[yi c,yi d,.own 20000258]))] [(20000258,(⟨3,.int .i64,a,true,false⟩:ae))]
def f48l1:ab:=⟨[4,5],[4],[⟨⟨true,4,2⟩,30000000,3,.int .i64,true⟩],[],[(⟨true,4,2⟩,20000258)]⟩
def f48B:Nat->Option ab:=aA [(1000000,f48l1)]
abbrev f48j{J:Type}(N n:Nat)(V:St)(l:ab)(K:KT J):Option J:=an IL aZ f48B N (aT 99 (a7 Tryz.f48) n) .n V (ay (some l) K)
def f48t0 N a b (K:KT J):f48j N 1 (f48s0 a b) f48lE K =
 cu.Z0 N a b (λc d e f=>K .ret (f48s1 c d e f)):=by kernel_rfl
def f48ok(h:cu.Spec):aw Tryz.prog 48 u7 :=
 bA Tryz.func48 a8 f48GOk (λN X K=>f48t0 N X.1 X.2.1 K) (by kernel_rfl) λX hb hp=>by obtain⟨a,b,_⟩:=X;obtain⟨N,h⟩:=h a b hb.1;exact⟨N,Eq.trans (by kernel_rfl) (h N (Nat.le_refl N))⟩
def IM:aw Tryz.prog 48 u7:=f48ok cu.ok
end Go.Fw
namespace Go.Fw
variable {J : Type}
open Go.Proofs
variable [DC]
def IN:ba:=⟨[⟨.pair (.int .i64) (.pair (.int .i64) (.sl 3 (.int .i64))),true,false⟩,⟨.pair (.int .i64) (.pair (.int .i64) (.sl 3 (.int .i64))),true,false⟩],[⟨.int .i64,false,false⟩]⟩
def zIO:aQ:=⟨IN,none,λX=>((),((nA.g X.1 X.2.1),()))⟩
def IP:Gm:=aI aY 51 uX
def f50GOk:ao Tryz.prog IP:=(ao.nil).add Il (by kernel_rfl)
def f50lE:ab:=⟨[],[],[],[],[]⟩
def f50s0(a b:MT):St:=bu IN.ps (a,(b,()))
def f50s1(a:Int):St:=af [(4,xi a)] [] []
def f50l1:ab:=⟨[4],[],[],[],[]⟩
def f50B:Nat->Option ab:=aA [(1000000,f50l1)]
abbrev f50j{J:Type}(N n:Nat)(V:St)(l:ab)(K:KT J):Option J:=an IP aZ f50B N (aT 99 (a7 Tryz.f50) n) .n V (ay (some l) K)
def f50t0 N a b (K:KT J):f50j N 1 (f50s0 a b) f50lE K =
 nA.Z0 N a b (λc=>K .ret (f50s1 c)):=by kernel_rfl
def f50ok(h:nA.Spec):aw Tryz.prog 50 zIO :=
 bA Tryz.func50 a8 f50GOk (λN X K=>f50t0 N X.1 X.2.1 K) (by kernel_rfl) λX hb hp=>by obtain⟨a,b,_⟩:=X;obtain⟨N,h⟩:=h a b hb.1 hb.2.1;exact⟨N,Eq.trans (by kernel_rfl) (h N (Nat.le_refl N))⟩
def e50ok:aw Tryz.prog 50 zIO:=f50ok nA.ok
end Go.Fw
namespace Go.Fw
variable {J : Type}
open Go.Proofs
def f49sig:ba:=⟨[⟨.sl 27 (.pair (.int .i64) (.pair (.int .i64) (.sl 3 (.int .i64)))),false,true⟩,⟨.fnc 50,false,false⟩],[]⟩
def AO:aQ:=⟨f49sig,(some λX=>ju.P X.1 X.2.1),λX=>((ju.g X.1 X.2.1),())⟩
def z01:Go.Shelf.Ren:=⟨λ|6=>49|15=>94|14=>93|28=>130|29=>131|20=>122|21=>123|22=>124|23=>125|24=>126|25=>127|26=>128|27=>129|46=>160|47=>161|48=>162|49=>163|50=>164|57=>184|n=>n,λ|22=>31|24=>27|25=>63|3=>3|39=>96|0=>0|53=>130|55=>132|4=>4|46=>123|45=>122|50=>127|5=>5|9=>9|66=>150|70=>120|76=>173|77=>174|n=>n,λn=>n⟩
def f49lay:SlLaysF0.n6 Tryz.prog z01:={ mixed:=(by kernel_rfl),f6:=⟨Tryz.f49.name,(by kernel_rfl),Tryz.func49.trans (congrArg some (by kernel_rfl))⟩,f14:=⟨Tryz.f93.name,(by kernel_rfl),Tryz.func93.trans (congrArg some (by kernel_rfl))⟩,f15:=Tryz.func94.trans (congrArg some (by kernel_rfl)),f20:=⟨Tryz.f122.name,(by kernel_rfl),Tryz.func122.trans (congrArg some (by kernel_rfl))⟩,f21:=⟨Tryz.f123.name,(by kernel_rfl),Tryz.func123.trans (congrArg some (by kernel_rfl))⟩,f22:=⟨Tryz.f124.name,(by kernel_rfl),Tryz.func124.trans (congrArg some (by kernel_rfl))⟩,f23:=⟨Tryz.f125.name,(by kernel_rfl),Tryz.func125.trans (congrArg some (by kernel_rfl))⟩,f24:=⟨Tryz.f126.name,(by kernel_rfl),Tryz.func126.trans (congrArg some (by kernel_rfl))⟩,f25:=⟨Tryz.f127.name,(by kernel_rfl),Tryz.func127.trans (congrArg some (by kernel_rfl))⟩,f26:=⟨Tryz.f128.name,(by kernel_rfl),Tryz.func128.trans (congrArg some (by kernel_rfl))⟩,f27:=⟨Tryz.f129.name,(by kernel_rfl),Tryz.func129.trans (congrArg some (by kernel_rfl))⟩,f28:=Tryz.func130.trans (congrArg some (by kernel_rfl)),f29:=Tryz.func131.trans (congrArg some (by kernel_rfl)),f46:=⟨Tryz.f160.name,(by kernel_rfl),Tryz.func160.trans (congrArg some (by kernel_rfl))⟩,f47:=Tryz.func161.trans (congrArg some (by kernel_rfl)),f48:=Tryz.func162.trans (congrArg some (by kernel_rfl)),f49:=⟨Tryz.f163.name,(by kernel_rfl),Tryz.func163.trans (congrArg some (by kernel_rfl))⟩,f50:=⟨Tryz.f164.name,(by kernel_rfl),Tryz.func164.trans (congrArg some (by kernel_rfl))⟩,f57:=⟨Tryz.f184.name,(by kernel_rfl),Tryz.func184.trans (congrArg some (by kernel_rfl))⟩,t0:=Tryz.underlying0,a0:=Tryz.isAgg0,z0:=Tryz.sizeOf0,v0:=Tryz.zeroValue0,t3:=Tryz.underlying3,a3:=Tryz.isAgg3,z3:=Tryz.sizeOf3,v3:=Tryz.zeroValue3,t4:=Tryz.underlying4,a4:=Tryz.isAgg4,z4:=Tryz.sizeOf4,v4:=Tryz.zeroValue4,t5:=Tryz.underlying5,a5:=Tryz.isAgg5,z5:=Tryz.sizeOf5,v5:=Tryz.zeroValue5,t9:=Tryz.underlying9,a9:=Tryz.isAgg9,z9:=Tryz.sizeOf9,v9:=Tryz.zeroValue9,t22:=Tryz.underlying31,a22:=Tryz.isAgg31,z22:=Tryz.sizeOf31,v22:=Tryz.zeroValue31,t25:=Tryz.underlying63,a25:=Tryz.isAgg63,z25:=Tryz.sizeOf63,v25:=Tryz.zeroValue63,t39:=Tryz.underlying96,a39:=Tryz.isAgg96,z39:=Tryz.sizeOf96,v39:=Tryz.zeroValue96,t45:=Tryz.underlying122,a45:=Tryz.isAgg122,z45:=Tryz.sizeOf122,v45:=Tryz.zeroValue122,t46:=Tryz.underlying123,a46:=Tryz.isAgg123,z46:=Tryz.sizeOf123,v46:=Tryz.zeroValue123,t50:=Tryz.underlying127,a50:=Tryz.isAgg127,z50:=Tryz.sizeOf127,v50:=Tryz.zeroValue127,t53:=Tryz.underlying130,a53:=Tryz.isAgg130,z53:=Tryz.sizeOf130,v53:=Tryz.zeroValue130,t55:=Tryz.underlying132,a55:=Tryz.isAgg132,z55:=Tryz.sizeOf132,v55:=Tryz.zeroValue132,t66:=Tryz.underlying150,a66:=Tryz.isAgg150,z66:=Tryz.sizeOf150,v66:=Tryz.zeroValue150,t70:=Tryz.underlying120,a70:=Tryz.isAgg120,z70:=Tryz.sizeOf120,v70:=Tryz.zeroValue120,t76:=Tryz.underlying173,a76:=Tryz.isAgg173,z76:=Tryz.sizeOf173,v76:=Tryz.zeroValue173,t77:=Tryz.underlying174,a77:=Tryz.isAgg174,z77:=Tryz.sizeOf174,v77:=Tryz.zeroValue174 }
def f49ok(_:True):aw Tryz.prog 49 AO:=Nj (t:=.pair (.int .i64) (.pair (.int .i64) (.sl 3 (.int .i64)))) (e:=27) f49lay (c:=50) (0,(0,[])) Tryz.isAgg27 Tryz.sizeOf27 yJ (@e50ok DC.tt) (by
 have h2:¬ Tryz.f50.body=none:=by
  intro h;have:Tryz.f50.body.isSome=true:=by kernel_rfl
  rw[h]at this;cases this
 have h1 : ¬ Tryz.f50.name = "runtime.NumGoroutine" := by decide +kernel
 intro args w;simp[callFunc,Tryz.func50,h1,h2])
def e49ok:aw Tryz.prog 49 AO:=f49ok ju.ok
def IQ:ba:=⟨[⟨.pair (.int .i64) (.pair (.int .i64) (.sl 3 (.int .i64))),true,false⟩],[⟨.sl 27 (.pair (.int .i64) (.pair (.int .i64) (.sl 3 (.int .i64)))),false,false⟩,⟨.bool,false,false⟩]⟩
def u9:aQ:=⟨IQ,none,λX=>((),((b7.g X.1).1,((b7.g X.1).2,())))⟩
def IR:Gm:=aI (aI (aI (aI aY 34 u4) 47 AK) 48 u7) 49 AO
def f15GOk:ao Tryz.prog IR:=((((ao.nil).add Is (by kernel_rfl)).add e47ok (by kernel_rfl)).add IM (by kernel_rfl)).add e49ok (by kernel_rfl)
def f15lE:ab:=⟨[],[],[],[],[]⟩
def f15s0(a:MT):St:=bu IQ.ps (a,())
def IS(a b:Int)(c:LI):St:=af [(1,xb 1)] [(1,(27,[yi a,yi b,.sn 3 tI c none]))] []
def f15l1:ab:=⟨[1],[1],[],[],[]⟩
def IT(a:LI)(b:Bool)(c d:Int)(e:LI)(f g:Int):St:=af [(1,xb 1),(4,xb 4),(5,xB b)] [(1,(27,[yi c,yi d,.sn 3 tI e none])),(4,(27,[yi f,yi g,.own 20000258]))] [(20000258,(⟨3,.int .i64,a,true,false⟩:ae))]
def f15l2:ab:=⟨[1,4,5],[1,4],[],[],[(⟨true,4,2⟩,20000258)]⟩
def IU(a:LI)(b c:Int)(d:LI)(e f:Int):St:=af [(1,xb 1),(4,xb 4)] [(1,(27,[yi b,yi c,.sn 3 tI d none])),(4,(27,[yi e,yi f,.own 20000258]))] [(20000258,(⟨3,.int .i64,a,true,false⟩:ae))]
def f15l3:ab:=⟨[1,4],[1,4],[],[],[(⟨true,4,2⟩,20000258)]⟩
def IV(a:LM)(b c:Int)(d:LI)(e f:Int)(g:LI):St:=af [(1,xb 1),(4,xb 4),(6,xo 1000384)] [(1,(27,[yi b,yi c,.sn 3 tI d none])),(4,(27,[yi e,yi f,.sn 3 tI g (some 1000384)]))] [(1000384,(⟨27,tM 3,a,true,false⟩:ae))]
def f15l4:ab:=⟨[1,4,6],[1,4],[],[],[(⟨false,6,0⟩,1000384)]⟩
def IW(a:LM)(b d:Int)(e:LI)(f:List ByteArray):St:=af [(1,xb 1),(6,xo 1000384),(7,.c (.mp 24))] [(1,(27,[yi b,yi d,.sn 3 tI e none])),(24,(1000000059,[.mset (.str) f]))] [(1000384,(⟨27,tM 3,a,true,false⟩:ae))]
def f15l5:ab:=⟨[1,6,7],[1,24],[],[],[(⟨false,6,0⟩,1000384)]⟩
def iO(a:LM)(b d e:Int)(f:LI)(g:List ByteArray):St:=af [(1,xb 1),(6,xo 1000384),(7,.c (.mp 24)),(8,xi b)] [(1,(27,[yi d,yi e,.sn 3 tI f none])),(24,(1000000059,[.mset (.str) g]))] [(1000384,(⟨27,tM 3,a,true,false⟩:ae))]
def lT:ab:=⟨[1,6,7,8],[1,24],[],[],[(⟨false,6,0⟩,1000384)]⟩
def va(a:LM)(b d e f:Int)(g:LI)(h:List ByteArray):St:=af [(1,xb 1),(6,xo 1000384),(7,.c (.mp 24)),(8,xi b),(9,xi d)] [(1,(27,[yi e,yi f,.sn 3 tI g none])),(24,(1000000059,[.mset (.str) h]))] [(1000384,(⟨27,tM 3,a,true,false⟩:ae))]
def IX:ab:=⟨[1,6,7,8,9],[1,24],[],[],[(⟨false,6,0⟩,1000384)]⟩
def pg(a:LM):St:=af [(6,xo 1000384)] [] [(1000384,(⟨27,tM 3,a,true,false⟩:ae))]
def AP:ab:=⟨[6],[],[],[],[(⟨false,6,0⟩,1000384)]⟩
def iq(a:LM)(b:Bool):St:=af [(2,xo 1000128),(3,xB b)] [] [(1000128,(⟨27,tM 3,a,true,false⟩:ae))]
def f15l9:ab:=⟨[2,3],[],[⟨⟨false,2,0⟩,30000000,27,.pair (.int .i64) (.pair (.int .i64) (.sl 3 (.int .i64))),true⟩],[],[(⟨false,2,0⟩,1000128)]⟩
def f15B:Nat->Option ab:=aA [(2,lT),(1,lT),(0,AP),(1000000,f15l9)]
abbrev jp{J:Type}(N n:Nat)(V:St)(l:ab)(K:KT J):Option J:=an IR aZ f15B N (aT 99 (a7 Tryz.f15) n) .n V (ay (some l) K)
def f15t1 N a (K:KT J):jp N 2 (f15s0 a) f15l1 K =
 b7.Z1 N a (λb c d=>K .nrm (IS b c d)):=by kernel_rfl
def f15t3 N a b c (K:KT J):jp N 5 (IS a b c) f15l2 K =
 b7.Z3 N a b c (λd e a b c f g=>K .nrm (IT d e a b c f g)):=by kernel_rfl
def f15t5 N a g b c d e f (K:KT J):jp N 11 (IT a g b c d e f) f15l3 K =
 b7.Z5 N a g b c d e f (λa b c d e f=>K .nrm (IU a b c d e f)) (λh i=>K .ret (iq h i)):=by kernel_rfl
def f15t7 N a b c d e f (K:KT J):jp N 23 (IU a b c d e f) f15l4 K =
 b7.Z7 N a b c d e f (λg b c d e f a=>K .nrm (IV g b c d e f a)):=by kernel_rfl
def f15t9 N a b c d e f g (K:KT J):jp N 47 (IV a b c d e f g) f15l5 K =
 b7.Z9 N a b c d e f g (λa b c d h=>K .nrm (IW a b c d h)):=by kernel_rfl
def f15t12 N a b c d e (K:KT J):jp N 159 (IW a b c d e) lT K =
 b7.Z12 N a b c d e (λa f b c d e=>K .nrm (iO a f b c d e)):=by kernel_rfl
def f15t16 N a b c d e f (K:KT J):jp N 1119 (iO a b c d e f) lT K =
 b7.Z16 N a b c d e f (λa b c d e f=>K .nrm (iO a b c d e f)) (λa=>K (.exit 0) (pg a)):=by kernel_rfl
def f15t20 N a b c d e f (K:KT J):jp N 8799 (iO a b c d e f) IX K =
 b7.Z20 N a b c d e f (λa b g c d e f=>K .nrm (va a b g c d e f)):=by kernel_rfl
def f15t23 N a b g c d e f (K:KT J):jp N 37471 (va a b g c d e f) IX K =
 b7.Z23 N a b g c d e f (λa b g c d e f=>K .nrm (va a b g c d e f)) (λa b c d e f=>K (.exit 2) (iO a b c d e f)) (λh i=>K .ret (iq h i)):=by kernel_rfl
def f15t22L N (K:KT J):=qx K (b7.Z22L N (λa b c d e f=>K (.exit 2) (iO a b c d e f)) (λg h=>K .ret (iq g h))) (λa b i c d e f k=>b7.Z23 N a b i c d e f k (λa b c d e f=>K (.exit 2) (iO a b c d e f)) (λg h=>K .ret (iq g h))) (λF a b i c d e f=>f15t23 N a b i c d e f _) (by kernel_rfl)
def f15t22 N a b c d e f g (K:KT J):=vL (va a b c d e f g) (f15t22L N (jK lT K) N a b c d e f g) (by kernel_rfl)
def f15t21 N a b g c d e f (K:KT J):=vB 2 lT K (b7.Z21 N a b g c d e f (λa b c d e f=>K .nrm (iO a b c d e f)) (λh i=>K .ret (iq h i))) (f15t22 N a b g c d e f _) (by kernel_rfl)
def f15t19 N a b c d e f (K:KT J):=vQ (λk=>b7.Z20 N a b c d e f k) (f15t20 N a b c d e f _) (eA λa b g c d e f=>f15t21 N a b g c d e f K)
def f15t18 N a b c d e f (K:KT J):=vB 1 lT K (b7.Z18 N a b c d e f (λa b c d e f=>K .nrm (iO a b c d e f)) (λg h=>K .ret (iq g h))) (f15t19 N a b c d e f _) (by kernel_rfl)
def f15t24 N a b c d e f (K:KT J):jp N 3679 (iO a b c d e f) lT K =
 b7.Z24 N a b c d e f (λa b c d e f=>K .nrm (iO a b c d e f)):=by kernel_rfl
def f15t17 N a b c d e f (K:KT J):=vQ (λk=>b7.Z18 N a b c d e f k (λg h=>K .ret (iq g h))) (f15t18 N a b c d e f _) (cB λa b c d e f=>f15t24 N a b c d e f K)
def f15t15 N a b c d e f (K:KT J):=vQ (λk=>b7.Z16 N a b c d e f k (λa=>K (.exit 0) (pg a))) (f15t16 N a b c d e f _) (cB λa b c d e f=>f15t17 N a b c d e f K)
def f15t14L N (K:KT J):=kf K (b7.Z14L N (λa=>K (.exit 0) (pg a)) (λb c=>K .ret (iq b c))) (λa d e f g h k=>b7.Z15 N a d e f g h k (λa=>K (.exit 0) (pg a)) (λb c=>K .ret (iq b c))) (λF a d e f g h=>f15t15 N a d e f g h _) (by kernel_rfl)
def f15t14 N a b c d e f (K:KT J):=vL (iO a b c d e f) (f15t14L N (jK AP K) N a b c d e f) (by kernel_rfl)
def f15t13 N a b c d e f (K:KT J):=vB 0 AP K (b7.Z13 N a b c d e f (λa=>K .nrm (pg a)) (λg h=>K .ret (iq g h))) (f15t14 N a b c d e f _) (by kernel_rfl)
def f15t11 N a b c d e (K:KT J):=vQ (λk=>b7.Z12 N a b c d e k) (f15t12 N a b c d e _) (cB λa f b c d e=>f15t13 N a f b c d e K)
def f15t25 N a (K:KT J):jp N 127 (pg a) f15lE K =
 b7.Z25 N a (λb c=>K .ret (iq b c)):=by kernel_rfl
def f15t10 N a b c d e (K:KT J):=vQ (λk=>b7.Z11 N a b c d e k (λf g=>K .ret (iq f g))) (f15t11 N a b c d e _) (funext λa=>f15t25 N a K)
def f15t8 N a b c d e f g (K:KT J):=vQ (λk=>b7.Z9 N a b c d e f g k) (f15t9 N a b c d e f g _) (cn λa b c d h=>f15t10 N a b c d h K)
def f15t6 N a b c d e f (K:KT J):=vQ (λk=>b7.Z7 N a b c d e f k) (f15t7 N a b c d e f _) (eA λg b c d e f a=>f15t8 N g b c d e f a K)
def f15t4 N a g b c d e f (K:KT J):=vQ (λk=>b7.Z5 N a g b c d e f k (λh i=>K .ret (iq h i))) (f15t5 N a g b c d e f _) (cB λa b c d e f=>f15t6 N a b c d e f K)
def f15t2 N a b c (K:KT J):=vQ (λk=>b7.Z3 N a b c k) (f15t3 N a b c _) (eA λd e a b c f g=>f15t4 N d e a b c f g K)
def f15t0 N a (K:KT J):=vQ (λk=>b7.Z1 N a k) (f15t1 N a _) (cF λb c d=>f15t2 N b c d K)
def f15ok(h:b7.Spec):aw Tryz.prog 15 u9 :=
 bA Tryz.func15 a8 f15GOk (λN X K=>f15t0 N X.1 K) (by kernel_rfl) λX hb hp=>by obtain⟨a,_⟩:=X;obtain⟨N,h⟩:=h a hb.1;exact⟨N,Eq.trans (by kernel_rfl) (h N (Nat.le_refl N))⟩
def IY:aw Tryz.prog 15 u9:=f15ok b7.ok
def AQ:Rf:=none
def AR:List PT:=[⟨.sl 3 (.int .i64),false,true⟩,⟨.int .i64,false,false⟩,⟨.sl 22 (.sl 3 (.int .i64)),false,true⟩]
def IZ:List PT:=[⟨.sl 22 (.sl 3 (.int .i64)),false,false⟩]
def I0(m:Nat):gV:=⟨AQ,AR,IZ,(some (gh (λX=>da.mu X.2.1 X.2.2.1 X.2.2.2.1) (λX=>da.P X.2.1 X.2.2.1 X.2.2.2.1) m)),λX=>((),((da.g X.2.1 X.2.2.1 X.2.2.2.1),()))⟩
def AS:gV:=⟨AQ,AR,IZ,(some λX=>da.P X.2.1 X.2.2.1 X.2.2.2.1),λX=>((),((da.g X.2.1 X.2.2.1 X.2.2.2.1),()))⟩
def I1(m:Nat):Gm:=addM (aI (aI aY 46 rb) 72 uk) 119 (I0 m)
def f119GOk(m:Nat)(hself:fp Tryz.prog 119 (I0 m)):ao Tryz.prog (I1 m):=(((ao.nil).add zS (by kernel_rfl)).add F1 (by kernel_rfl)).addM hself (by kernel_rfl)
def f119lE:ab:=⟨[],[],[],[],[]⟩
def f119s0(a:LI)(b:Int)(c:LL):St:=fu AQ AR ((),(a,(b,(c,()))))
def vb(a:LI)(b:LL)(c:Int):St:=af [(0,xo 1000000),(1,xi c),(2,xo 1000128)] [] [(1000000,(⟨3,.int .i64,a,true,false⟩:ae)),(1000128,(⟨22,.sl 3 tI,b,true,false⟩:ae))]
def I9:ab:=⟨[0,1,2],[],[],[],[(⟨false,0,0⟩,1000000),(⟨false,2,0⟩,1000128)]⟩
def vc(a:LI)(b:LL)(c d:Int):St:=af [(0,xo 1000000),(1,xi c),(2,xo 1000128),(7,xi d)] [] [(1000000,(⟨3,.int .i64,a,true,false⟩:ae)),(1000128,(⟨22,.sl 3 tI,b,true,false⟩:ae))]
def Ja:ab:=⟨[0,1,2,7],[],[],[],[(⟨false,0,0⟩,1000000),(⟨false,2,0⟩,1000128)]⟩
def rI(a:LL):St:=af [(2,xo 1000128)] [] [(1000128,(⟨22,.sl 3 tI,a,true,false⟩:ae))]
def AT:ab:=⟨[2],[],[],[],[(⟨false,2,0⟩,1000128)]⟩
def AU(a:LL):St:=af [(6,xo 1000384)] [] [(1000384,(⟨22,.sl 3 tI,a,true,false⟩:ae))]
def f119l4:ab:=⟨[6],[],[],[],[(⟨false,6,0⟩,1000384)]⟩
def f119B:Nat->Option ab:=aA [(0,AT),(1000000,f119l4)]
abbrev rJ{J:Type}(N m n:Nat)(V:St)(l:ab)(K:KT J):Option J:=an (I1 m) aZ f119B N (aT 99 (a7 Tryz.f119) n) .n V (ay (some l) K)
def f119t1 N m a b c (K:KT J):rJ N m 2 (f119s0 a b c) I9 K =
 da.Z1 N m a b c (λa c b=>K .nrm (vb a c b)):=by kernel_rfl
def f119t3 N m a b c (K:KT J):rJ N m 5 (vb a b c) I9 K =
 da.Z3 N m a b c (λa b c=>K .nrm (vb a b c)) (λd=>K .ret (AU d)):=by kernel_rfl
def f119t6 N m a b c (K:KT J):rJ N m 19 (vb a b c) Ja K =
 da.Z6 N m a b c (λa b c d=>K .nrm (vc a b c d)):=by kernel_rfl
def f119t9 N m b a c d (K:KT J):rJ N m 75 (vc b a c d) Ja K =
 da.Z9 N m b a c d (λb a c d=>K .nrm (vc b a c d)) (λa=>K (.exit 0) (rI a)):=by kernel_rfl
def f119t8L N m (K:KT J):=mN K (da.Z8L N m (λa=>K (.exit 0) (rI a))) (λb a c d k=>da.Z9 N m b a c d k (λa=>K (.exit 0) (rI a))) (λF b a c d=>f119t9 N m b a c d _) (by kernel_rfl)
def f119t8 N m a b c d (K:KT J):=vL (vc a b c d) (f119t8L N m (jK AT K) N a b c d) (by kernel_rfl)
def f119t7 N m b a c d (K:KT J):=vB 0 AT K (da.Z7 N m b a c d (λa=>K .nrm (rI a))) (f119t8 N m b a c d _) (by kernel_rfl)
def f119t5 N m a b c (K:KT J):=vQ (λk=>da.Z6 N m a b c k) (f119t6 N m a b c _) (d7 λa b c d=>f119t7 N m a b c d K)
def f119t10 N m a (K:KT J):rJ N m 15 (rI a) f119lE K =
 da.Z10 N m a (λb=>K .ret (AU b)):=by kernel_rfl
def f119t4 N m b a c (K:KT J):=vQ (λk=>da.Z5 N m b a c k) (f119t5 N m b a c _) (funext λa=>f119t10 N m a K)
def f119t2 N m a b c (K:KT J):=vQ (λk=>da.Z3 N m a b c k (λd=>K .ret (AU d))) (f119t3 N m a b c _) (cF λa b c=>f119t4 N m a b c K)
def f119t0 N m a b c (K:KT J):=vQ (λk=>da.Z1 N m a b c k) (f119t1 N m a b c _) (cF λa c b=>f119t2 N m a c b K)
def f119ok(h:da.Spec):fp Tryz.prog 119 AS :=
 fp.rec (μ:=λX=>da.mu X.2.1 X.2.2.1 X.2.2.2.1) (λm hself=>MS Tryz.func119 a8 (f119GOk m hself) (λN X K=>f119t0 N m X.2.1 X.2.2.1 X.2.2.2.1 K) (by kernel_rfl) λX hb1 hb2 hp=>by obtain⟨u,a,b,c,_⟩:=X;obtain⟨N,h⟩:=h m a b c hb2.1 hb2.2.2.1 hp;exact⟨N,Eq.trans (by kernel_rfl) (h N (Nat.le_refl N))⟩)
def e119ok:fp Tryz.prog 119 AS:=f119ok da.ok
def Jb:ba:=⟨[⟨.sl 3 (.int .i64),false,false⟩,⟨.sl 3 (.int .i64),false,false⟩],[⟨.bool,false,false⟩]⟩
def vd:aQ:=⟨Jb,none,λX=>((),((dP.g X.1 X.2.1),()))⟩
def Jc:Gm:=aY
def f89GOk:ao Tryz.prog Jc:=ao.nil
def f89lE:ab:=⟨[],[],[],[],[]⟩
def f89s0(a b:LI):St:=bu Jb.ps (a,(b,()))
def nu(a b:LI):St:=af [(0,.c (.sn 3 tI a none)),(1,.c (.sn 3 tI b none))] [] []
def ve:ab:=⟨[0,1],[],[],[],[]⟩
def vg(a b:LI)(d:Int):St:=af [(0,.c (.sn 3 tI a none)),(1,.c (.sn 3 tI b none)),(5,xi d)] [] []
def Jd:ab:=⟨[0,1,5],[],[],[],[]⟩
def ph(a:Bool):St:=af [(4,xB a)] [] []
def f89l3:ab:=⟨[4],[],[],[],[]⟩
def f89B:Nat->Option ab:=aA [(0,ve),(1000000,f89l3)]
abbrev vh{J:Type}(N n:Nat)(V:St)(l:ab)(K:KT J):Option J:=an Jc aZ f89B N (aT 99 (a7 Tryz.f89) n) .n V (ay (some l) K)
def f89t1 N a b (K:KT J):vh N 2 (f89s0 a b) ve K =
 dP.Z1 N a b (λa b=>K .nrm (nu a b)):=by kernel_rfl
def f89t4 N a b (K:KT J):vh N 9 (nu a b) Jd K =
 dP.Z4 N a b (λa b c=>K .nrm (vg a b c)):=by kernel_rfl
def f89t7 N a b c (K:KT J):vh N 37 (vg a b c) Jd K =
 dP.Z7 N a b c (λa b c=>K .nrm (vg a b c)) (λa b=>K (.exit 0) (nu a b)) (λd=>K .ret (ph d)):=by kernel_rfl
def f89t6L N (K:KT J):=g8 K (dP.Z6L N (λa b=>K (.exit 0) (nu a b)) (λc=>K .ret (ph c))) (λa b d k=>dP.Z7 N a b d k (λa b=>K (.exit 0) (nu a b)) (λc=>K .ret (ph c))) (λF a b d=>f89t7 N a b d _) (by kernel_rfl)
def f89t6 N a b c (K:KT J):=vL (vg a b c) (f89t6L N (jK ve K) N a b c) (by kernel_rfl)
def f89t5 N a b c (K:KT J):=vB 0 ve K (dP.Z5 N a b c (λa b=>K .nrm (nu a b)) (λd=>K .ret (ph d))) (f89t6 N a b c _) (by kernel_rfl)
def f89t3 N a b (K:KT J):=vQ (λk=>dP.Z4 N a b k) (f89t4 N a b _) (cF λa b c=>f89t5 N a b c K)
def f89t8 N a b (K:KT J):vh N 7 (nu a b) f89lE K =
 dP.Z8 N a b (λc=>K .ret (ph c)):=by kernel_rfl
def f89t2 N a b (K:KT J):=vQ (λk=>dP.Z3 N a b k (λc=>K .ret (ph c))) (f89t3 N a b _) (cV λa b=>f89t8 N a b K)
def f89t0 N a b (K:KT J):=vQ (λk=>dP.Z1 N a b k) (f89t1 N a b _) (cV λa b=>f89t2 N a b K)
def f89ok(h:dP.Spec):aw Tryz.prog 89 vd :=
 bA Tryz.func89 a8 f89GOk (λN X K=>f89t0 N X.1 X.2.1 K) (by kernel_rfl) λX hb hp=>by obtain⟨a,b,_⟩:=X;obtain⟨N,h⟩:=h a b hb.1 hb.2.1;exact⟨N,Eq.trans (by kernel_rfl) (h N (Nat.le_refl N))⟩
def Je:aw Tryz.prog 89 vd:=f89ok dP.ok
def Jf:ba:=⟨[⟨.pair (.int .i64) (.pair (.int .i64) (.sl 3 (.int .i64))),true,false⟩],[⟨.pair (.int .i64) (.pair (.int .i64) (.sl 3 (.int .i64))),true,false⟩]⟩
def AV:aQ:=⟨Jf,(some λX=>cO.P X.1),λX=>((),((cO.g X.1),()))⟩
def Jg:Gm:=aI (addM (aI (aI aY 70 rc) 89 vd) 119 AS) 120 uy
def f86GOk:ao Tryz.prog Jg:=((((ao.nil).add zT (by kernel_rfl)).add Je (by kernel_rfl)).addM e119ok (by kernel_rfl)).add GQ (by kernel_rfl)
def f86lE:ab:=⟨[],[],[],[],[]⟩
def f86s0(a:MT):St:=bu Jf.ps (a,())
def Jh(a b:Int)(c:LI)(d e:Int):St:=af [(1,xb 1),(2,xb 2)] [(1,(27,[yi a,yi b,.sn 3 tI c none])),(2,(27,[yi d,yi e,.nil]))] []
def f86l1:ab:=⟨[1,2],[1,2],[],[],[]⟩
def Ji(a:LI)(b c:Int)(d:LI)(e f g h:Int):St:=af [(1,xb 1),(2,xb 2),(3,xb 3)] [(1,(27,[yi b,yi c,.sn 3 tI d none])),(2,(27,[yi e,yi f,.nil])),(3,(27,[yi g,yi h,.own 20000194]))] [(20000194,(⟨3,.int .i64,a,true,false⟩:ae))]
def f86l2:ab:=⟨[1,2,3],[1,2,3],[],[],[(⟨true,3,2⟩,20000194)]⟩
def Jj(a:LL)(b:LI)(c d:Int)(e:LI)(f g h i:Int):St:=af [(1,xb 1),(2,xb 2),(3,xb 3),(4,xo 1000256)] [(1,(27,[yi c,yi d,.sn 3 tI e none])),(2,(27,[yi f,yi g,.nil])),(3,(27,[yi h,yi i,.own 20000194]))] [(1000256,(⟨22,.sl 3 tI,a,true,false⟩:ae)),(20000194,(⟨3,.int .i64,b,true,false⟩:ae))]
def f86l3:ab:=⟨[1,2,3,4],[1,2,3],[],[],[(⟨false,4,0⟩,1000256),(⟨true,3,2⟩,20000194)]⟩
def vj(a:LL)(b:LI)(c d e:Int)(f:LI)(g h i j:Int):St:=af [(1,xb 1),(2,xb 2),(3,xb 3),(4,xo 1000256),(5,xi c)] [(1,(27,[yi d,yi e,.sn 3 tI f none])),(2,(27,[yi g,yi h,.nil])),(3,(27,[yi i,yi j,.own 20000194]))] [(1000256,(⟨22,.sl 3 tI,a,true,false⟩:ae)),(20000194,(⟨3,.int .i64,b,true,false⟩:ae))]
def Jk:ab:=⟨[1,2,3,4,5],[1,2,3],[],[],[(⟨false,4,0⟩,1000256),(⟨true,3,2⟩,20000194)]⟩
def rK(a:LI)(b c d e:Int):St:=af [(2,xb 2),(3,xb 3)] [(2,(27,[yi b,yi c,.nil])),(3,(27,[yi d,yi e,.own 20000194]))] [(20000194,(⟨3,.int .i64,a,true,false⟩:ae))]
def AW:ab:=⟨[2,3],[2,3],[],[],[(⟨true,3,2⟩,20000194)]⟩
def f86s6(a:LI)(b c:Int):St:=af [(2,xb 2)] [(2,(27,[yi b,yi c,.own 20000130]))] [(20000130,(⟨3,.int .i64,a,true,false⟩:ae))]
def f86l6:ab:=⟨[2],[2],[],[],[(⟨true,2,2⟩,20000130)]⟩
def f86B:Nat->Option ab:=aA [(0,AW),(1000000,f86l6)]
abbrev pi{J:Type}(N n:Nat)(V:St)(l:ab)(K:KT J):Option J:=an Jg aZ f86B N (aT 99 (a7 Tryz.f86) n) .n V (ay (some l) K)
def f86t1 N a (K:KT J):pi N 2 (f86s0 a) f86l1 K =
 cO.Z1 N a (λb c d e f=>K .nrm (Jh b c d e f)):=by kernel_rfl
def f86t3 N a b c d e (K:KT J):pi N 5 (Jh a b c d e) f86l2 K =
 cO.Z3 N a b c d e (λf a b c d e g h=>K .nrm (Ji f a b c d e g h)):=by kernel_rfl
def f86t5 N a b c d e f g h (K:KT J):pi N 11 (Ji a b c d e f g h) f86l3 K =
 cO.Z5 N a b c d e f g h (λi a b c d e f g h=>K .nrm (Jj i a b c d e f g h)):=by kernel_rfl
def f86t8 N a b c d e f g h i (K:KT J):pi N 39 (Jj a b c d e f g h i) Jk K =
 cO.Z8 N a b c d e f g h i (λa b j c d e f g h i=>K .nrm (vj a b j c d e f g h i)):=by kernel_rfl
def f86t11 N f a g h i j b c d e (K:KT J):pi N 151 (vj f a g h i j b c d e) Jk K =
 cO.Z11 N f a g h i j b c d e (λf a g h i j b c d e=>K .nrm (vj f a g h i j b c d e)) (λa b c d e=>K (.exit 0) (rK a b c d e)):=by kernel_rfl
def f86t10L N (K:KT J):=jC K (cO.Z10L N (λa b c d e=>K (.exit 0) (rK a b c d e))) (λf a g h i j b c d e k=>cO.Z11 N f a g h i j b c d e k (λa b c d e=>K (.exit 0) (rK a b c d e))) (λF f a g h i j b c d e=>f86t11 N f a g h i j b c d e _) (by kernel_rfl)
def f86t10 N a b c d e f g h i j (K:KT J):=vL (vj a b c d e f g h i j) (f86t10L N (jK AW K) N a b c d e f g h i j) (by kernel_rfl)
def f86t9 N f a g h i j b c d e (K:KT J):=vB 0 AW K (cO.Z9 N f a g h i j b c d e (λa b c d e=>K .nrm (rK a b c d e))) (f86t10 N f a g h i j b c d e _) (by kernel_rfl)
def f86t7 N a b c d e f g h i (K:KT J):=vQ (λk=>cO.Z8 N a b c d e f g h i k) (f86t8 N a b c d e f g h i _) (dA λa b j c d e f g h i=>f86t9 N a b j c d e f g h i K)
def f86t12 N c a b d e (K:KT J):pi N 31 (rK c a b d e) f86lE K =
 cO.Z12 N c a b d e (λf a b=>K .ret (f86s6 f a b)):=by kernel_rfl
def f86t6 N f a g h i b c d e (K:KT J):=vQ (λk=>cO.Z7 N f a g h i b c d e k) (f86t7 N f a g h i b c d e _) (cn λa b c d e=>f86t12 N a b c d e K)
def f86t4 N a b c d e f g h (K:KT J):=vQ (λk=>cO.Z5 N a b c d e f g h k) (f86t5 N a b c d e f g h _) (dT λi a b c d e f g h=>f86t6 N i a b c d e f g h K)
def f86t2 N a b c d e (K:KT J):=vQ (λk=>cO.Z3 N a b c d e k) (f86t3 N a b c d e _) (du λf a b c d e g h=>f86t4 N f a b c d e g h K)
def f86t0 N a (K:KT J):=vQ (λk=>cO.Z1 N a k) (f86t1 N a _) (cn λb c d e f=>f86t2 N b c d e f K)
def f86ok(h:cO.Spec):aw Tryz.prog 86 AV :=
 bA Tryz.func86 a8 f86GOk (λN X K=>f86t0 N X.1 K) (by kernel_rfl) λX hb hp=>by obtain⟨a,_⟩:=X;obtain⟨N,h⟩:=h a hb.1 hp;exact⟨N,Eq.trans (by kernel_rfl) (h N (Nat.le_refl N))⟩
def e86ok:aw Tryz.prog 86 AV:=f86ok cO.ok
def Jl:ba:=⟨[⟨.sl 3 (.int .i64),false,false⟩,⟨.sl 3 (.int .i64),false,false⟩],[⟨.bool,false,false⟩]⟩
def AX:aQ:=⟨Jl,none,λX=>((),((fh.g X.1 X.2.1),()))⟩
def Jm:Gm:=aY
def f88GOk:ao Tryz.prog Jm:=ao.nil
def f88lE:ab:=⟨[],[],[],[],[]⟩
def f88s0(a b:LI):St:=bu Jl.ps (a,(b,()))
def vk(a b:LI):St:=af [(0,.c (.sn 3 tI a none)),(1,.c (.sn 3 tI b none))] [] []
def Jn:ab:=⟨[0,1],[],[],[],[]⟩
def vl(a b:LI)(d:Int):St:=af [(0,.c (.sn 3 tI a none)),(1,.c (.sn 3 tI b none)),(5,xi d)] [] []
def Jo:ab:=⟨[0,1,5],[],[],[],[]⟩
def rL :St:=af [] [] []
def AY:ab:=⟨[],[],[],[],[]⟩
def lU(a:Bool):St:=af [(4,xB a)] [] []
def f88l4:ab:=⟨[4],[],[],[],[]⟩
def f88B:Nat->Option ab:=aA [(0,AY),(1000000,f88l4)]
abbrev rM{J:Type}(N n:Nat)(V:St)(l:ab)(K:KT J):Option J:=an Jm aZ f88B N (aT 99 (a7 Tryz.f88) n) .n V (ay (some l) K)
def f88t1 N a b (K:KT J):rM N 2 (f88s0 a b) Jn K =
 fh.Z1 N a b (λa b=>K .nrm (vk a b)):=by kernel_rfl
def f88t3 N a b (K:KT J):rM N 5 (vk a b) Jn K =
 fh.Z3 N a b (λa b=>K .nrm (vk a b)) (λc=>K .ret (lU c)):=by kernel_rfl
def f88t6 N a b (K:KT J):rM N 19 (vk a b) Jo K =
 fh.Z6 N a b (λa b c=>K .nrm (vl a b c)):=by kernel_rfl
def f88t9 N a b c (K:KT J):rM N 75 (vl a b c) Jo K =
 fh.Z9 N a b c (λa b c=>K .nrm (vl a b c)) (K (.exit 0) rL) (λd=>K .ret (lU d)):=by kernel_rfl
def f88t8L N (K:KT J):=g8 K (fh.Z8L N (K (.exit 0) rL) (λa=>K .ret (lU a))) (λb c d k=>fh.Z9 N b c d k (K (.exit 0) rL) (λa=>K .ret (lU a))) (λF b c d=>f88t9 N b c d _) (by kernel_rfl)
def f88t8 N a b c (K:KT J):=vL (vl a b c) (f88t8L N (jK AY K) N a b c) (by kernel_rfl)
def f88t7 N a b c (K:KT J):=vB 0 AY K (fh.Z7 N a b c (K .nrm rL) (λd=>K .ret (lU d))) (f88t8 N a b c _) (by kernel_rfl)
def f88t5 N a b (K:KT J):=vQ (λk=>fh.Z6 N a b k) (f88t6 N a b _) (cF λa b c=>f88t7 N a b c K)
def f88t10 N  (K:KT J):rM N 15 rL f88lE K =
 fh.Z10 N (λa=>K .ret (lU a)):=by kernel_rfl
def f88t4 N a b (K:KT J):=vQ (λk=>fh.Z5 N a b k (λc=>K .ret (lU c))) (f88t5 N a b _) (f88t10 N K)
def f88t2 N a b (K:KT J):=vQ (λk=>fh.Z3 N a b k (λc=>K .ret (lU c))) (f88t3 N a b _) (cV λa b=>f88t4 N a b K)
def f88t0 N a b (K:KT J):=vQ (λk=>fh.Z1 N a b k) (f88t1 N a b _) (cV λa b=>f88t2 N a b K)
def f88ok(h:fh.Spec):aw Tryz.prog 88 AX :=
 bA Tryz.func88 a8 f88GOk (λN X K=>f88t0 N X.1 X.2.1 K) (by kernel_rfl) λX hb hp=>by obtain⟨a,b,_⟩:=X;obtain⟨N,h⟩:=h a b hb.1 hb.2.1;exact⟨N,Eq.trans (by kernel_rfl) (h N (Nat.le_refl N))⟩
def e88ok:aw Tryz.prog 88 AX:=f88ok fh.ok
def Jp:ba:=⟨[⟨.pair (.int .i64) (.pair (.int .i64) (.sl 3 (.int .i64))),true,false⟩],[⟨.sl 27 (.pair (.int .i64) (.pair (.int .i64) (.sl 3 (.int .i64)))),false,false⟩,⟨.bool,false,false⟩]⟩
def AZ:aQ:=⟨Jp,(some λX=>bE.P X.1),λX=>((),((bE.g X.1).1,((bE.g X.1).2,())))⟩
def Jq:Gm:=aI (aI (aI (aI aY 65 qZ) 86 AV) 87 uw) 88 AX
def f44GOk:ao Tryz.prog Jq:=((((ao.nil).add zF (by kernel_rfl)).add e86ok (by kernel_rfl)).add GB (by kernel_rfl)).add e88ok (by kernel_rfl)
def f44lE:ab:=⟨[],[],[],[],[]⟩
def f44s0(a:MT):St:=bu Jp.ps (a,())
def Jr(a b:Int)(c:LI):St:=af [(1,xb 1)] [(1,(27,[yi a,yi b,.sn 3 tI c none]))] []
def f44l1:ab:=⟨[1],[1],[],[],[]⟩
def Js(a:LM)(b c:Int)(d:LI):St:=af [(1,xb 1),(4,xo 1000256)] [(1,(27,[yi b,yi c,.sn 3 tI d none]))] [(1000256,(⟨27,tM 3,a,true,false⟩:ae))]
def f44l2:ab:=⟨[1,4],[1],[],[],[(⟨false,4,0⟩,1000256)]⟩
def ir(a:LM)(b c d:Int)(e:LI):St:=af [(1,xb 1),(4,xo 1000256),(5,xi b)] [(1,(27,[yi c,yi d,.sn 3 tI e none]))] [(1000256,(⟨27,tM 3,a,true,false⟩:ae))]
def lV:ab:=⟨[1,4,5],[1],[],[],[(⟨false,4,0⟩,1000256)]⟩
def kE(a:LM)(b c d e:Int)(f:LI):St:=af [(1,xb 1),(4,xo 1000256),(5,xi b),(6,xi c)] [(1,(27,[yi d,yi e,.sn 3 tI f none]))] [(1000256,(⟨27,tM 3,a,true,false⟩:ae))]
def pk:ab:=⟨[1,4,5,6],[1],[],[],[(⟨false,4,0⟩,1000256)]⟩
def pm(a:LM)(b:LI)(c d e f:Int)(g:LI)(h i:Int):St:=af [(1,xb 1),(4,xo 1000256),(5,xi c),(6,xi d),(7,xb 7)] [(1,(27,[yi e,yi f,.sn 3 tI g none])),(7,(27,[yi h,yi i,.own 20000450]))] [(1000256,(⟨27,tM 3,a,true,false⟩:ae)),(20000450,(⟨3,.int .i64,b,true,false⟩:ae))]
def A3:ab:=⟨[1,4,5,6,7],[1,7],[],[],[(⟨false,4,0⟩,1000256),(⟨true,7,2⟩,20000450)]⟩
def nv(a:LM)(b:LI)(c d:Int)(e:Bool)(f g:Int)(h:LI)(i j:Int):St:=af [(1,xb 1),(4,xo 1000256),(5,xi c),(6,xi d),(7,xb 7),(8,xB e)] [(1,(27,[yi f,yi g,.sn 3 tI h none])),(7,(27,[yi i,yi j,.own 20000450]))] [(1000256,(⟨27,tM 3,a,true,false⟩:ae)),(20000450,(⟨3,.int .i64,b,true,false⟩:ae))]
def vm:ab:=⟨[1,4,5,6,7,8],[1,7],[],[],[(⟨false,4,0⟩,1000256),(⟨true,7,2⟩,20000450)]⟩
def vn(a:LM)(b:LI)(c d:Int)(e:Bool)(f g h:Int)(i:LI)(j l:Int):St:=af [(1,xb 1),(4,xo 1000256),(5,xi c),(6,xi d),(7,xb 7),(8,xB e),(9,xi f)] [(1,(27,[yi g,yi h,.sn 3 tI i none])),(7,(27,[yi j,yi l,.own 20000450]))] [(1000256,(⟨27,tM 3,a,true,false⟩:ae)),(20000450,(⟨3,.int .i64,b,true,false⟩:ae))]
def Jt:ab:=⟨[1,4,5,6,7,8,9],[1,7],[],[],[(⟨false,4,0⟩,1000256),(⟨true,7,2⟩,20000450)]⟩
def po(a:LM):St:=af [(4,xo 1000256)] [] [(1000256,(⟨27,tM 3,a,true,false⟩:ae))]
def A4:ab:=⟨[4],[],[],[],[(⟨false,4,0⟩,1000256)]⟩
def gl(a:LM)(b:Bool):St:=af [(2,xo 1000128),(3,xB b)] [] [(1000128,(⟨27,tM 3,a,true,false⟩:ae))]
def f44l9:ab:=⟨[2,3],[],[⟨⟨false,2,0⟩,30000000,27,.pair (.int .i64) (.pair (.int .i64) (.sl 3 (.int .i64))),true⟩],[],[(⟨false,2,0⟩,1000128)]⟩
def f44B:Nat->Option ab:=aA [(4,vm),(3,pk),(2,lV),(1,lV),(0,A4),(1000000,f44l9)]
abbrev fY{J:Type}(N n:Nat)(V:St)(l:ab)(K:KT J):Option J:=an Jq aZ f44B N (aT 99 (a7 Tryz.f44) n) .n V (ay (some l) K)
def f44t1 N a (K:KT J):fY N 2 (f44s0 a) f44l1 K =
 bE.Z1 N a (λb c d=>K .nrm (Jr b c d)):=by kernel_rfl
def f44t3 N a b c (K:KT J):fY N 5 (Jr a b c) f44l2 K =
 bE.Z3 N a b c (λd a b c=>K .nrm (Js d a b c)):=by kernel_rfl
def f44t6 N a b c d (K:KT J):fY N 19 (Js a b c d) lV K =
 bE.Z6 N a b c d (λa e b c d=>K .nrm (ir a e b c d)):=by kernel_rfl
def f44t10 N a b c d e (K:KT J):fY N 139 (ir a b c d e) lV K =
 bE.Z10 N a b c d e (λa b c d e=>K .nrm (ir a b c d e)) (λa=>K (.exit 0) (po a)):=by kernel_rfl
def f44t14 N a b c d e (K:KT J):fY N 1099 (ir a b c d e) pk K =
 bE.Z14 N a b c d e (λa b f c d e=>K .nrm (kE a b f c d e)):=by kernel_rfl
def f44t18 N a b f c d e (K:KT J):fY N 8779 (kE a b f c d e) pk K =
 bE.Z18 N a b f c d e (λa b f c d e=>K .nrm (kE a b f c d e)) (λa b c d e=>K (.exit 2) (ir a b c d e)):=by kernel_rfl
def f44t22 N a b c d e f (K:KT J):fY N 70219 (kE a b c d e f) A3 K =
 bE.Z22 N a b c d e f (λa g b c d e f h i=>K .nrm (pm a g b c d e f h i)):=by kernel_rfl
def f44t24 N a b c d e f g h i (K:KT J):fY N 168523 (pm a b c d e f g h i) A3 K =
 bE.Z24 N a b c d e f g h i (λa b c d e f g h i=>K .nrm (pm a b c d e f g h i)) (λj l=>K .ret (gl j l)):=by kernel_rfl
def f44t26 N a b c d e f g h i (K:KT J):fY N 365131 (pm a b c d e f g h i) A3 K =
 bE.Z26 N a b c d e f g h i (λa b c d e f g h i=>K .nrm (pm a b c d e f g h i)):=by kernel_rfl
def f44t28 N a b c d e f g h i (K:KT J):fY N 758347 (pm a b c d e f g h i) vm K =
 bE.Z28 N a b c d e f g h i (λa b c d j e f g h i=>K .nrm (nv a b c d j e f g h i)):=by kernel_rfl
def f44t31 N a b c d e f g h i j (K:KT J):fY N 2593355 (nv a b c d e f g h i j) Jt K =
 bE.Z31 N a b c d e f g h i j (λa b c d e l f g h i j=>K .nrm (vn a b c d e l f g h i j)):=by kernel_rfl
def f44t34 N a b c d e l f g h i j (K:KT J):fY N 9933387 (vn a b c d e l f g h i j) Jt K =
 bE.Z34 N a b c d e l f g h i j (λa b c d e l f g h i j=>K .nrm (vn a b c d e l f g h i j)) (λa b c d e f g h i j=>K (.exit 4) (nv a b c d e f g h i j)):=by kernel_rfl
def f44t33L N (K:KT J):=oh K (bE.Z33L N (λa b c d e f g h i j=>K (.exit 4) (nv a b c d e f g h i j))) (λa b c d e l f g h i j k=>bE.Z34 N a b c d e l f g h i j k (λa b c d e f g h i j=>K (.exit 4) (nv a b c d e f g h i j))) (λF a b c d e l f g h i j=>f44t34 N a b c d e l f g h i j _) (by kernel_rfl)
def f44t33 N a b c d e f g h i j l (K:KT J):=vL (vn a b c d e f g h i j l) (f44t33L N (jK vm K) N a b c d e f g h i j l) (by kernel_rfl)
def f44t32 N a b c d e l f g h i j (K:KT J):=vB 4 vm K (bE.Z32 N a b c d e l f g h i j (λa b c d e f g h i j=>K .nrm (nv a b c d e f g h i j))) (f44t33 N a b c d e l f g h i j _) (by kernel_rfl)
def f44t30 N a b c d e f g h i j (K:KT J):=vQ (λk=>bE.Z31 N a b c d e f g h i j k) (f44t31 N a b c d e f g h i j _) (fQ λa b c d e l f g h i j=>f44t32 N a b c d e l f g h i j K)
def f44t35 N a g b c h d e f i j (K:KT J):fY N 2069067 (nv a g b c h d e f i j) pk K =
 bE.Z35 N a g b c h d e f i j (λa b c d e f=>K .nrm (kE a b c d e f)) (λl m=>K .ret (gl l m)):=by kernel_rfl
def f44t29 N a b c d e f g h i j (K:KT J):=vQ (λk=>bE.Z30 N a b c d e f g h i j k) (f44t30 N a b c d e f g h i j _) (dA λa b c d e f g h i j=>f44t35 N a b c d e f g h i j K)
def f44t27 N a b c d e f g h i (K:KT J):=vQ (λk=>bE.Z28 N a b c d e f g h i k) (f44t28 N a b c d e f g h i _) (dA λa b c d j e f g h i=>f44t29 N a b c d j e f g h i K)
def f44t25 N a b c d e f g h i (K:KT J):=vQ (λk=>bE.Z26 N a b c d e f g h i k) (f44t26 N a b c d e f g h i _) (dT λa b c d e f g h i=>f44t27 N a b c d e f g h i K)
def f44t23 N a b c d e f g h i (K:KT J):=vQ (λk=>bE.Z24 N a b c d e f g h i k (λj l=>K .ret (gl j l))) (f44t24 N a b c d e f g h i _) (dT λa b c d e f g h i=>f44t25 N a b c d e f g h i K)
def f44t21 N a b c d e f (K:KT J):=vQ (λk=>bE.Z22 N a b c d e f k) (f44t22 N a b c d e f _) (dT λa g b c d e f h i=>f44t23 N a g b c d e f h i K)
def f44t20 N a b c d e f (K:KT J):=vB 3 pk K (bE.Z20 N a b c d e f (λa b c d e f=>K .nrm (kE a b c d e f)) (λg h=>K .ret (gl g h))) (f44t21 N a b c d e f _) (by kernel_rfl)
def f44t36 N a b c d e f (K:KT J):fY N 29259 (kE a b c d e f) pk K =
 bE.Z36 N a b c d e f (λa b c d e f=>K .nrm (kE a b c d e f)):=by kernel_rfl
def f44t19 N a b c d e f (K:KT J):=vQ (λk=>bE.Z20 N a b c d e f k (λg h=>K .ret (gl g h))) (f44t20 N a b c d e f _) (cB λa b c d e f=>f44t36 N a b c d e f K)
def f44t17 N a b f c d e (K:KT J):=vQ (λk=>bE.Z18 N a b f c d e k (λa b c d e=>K (.exit 2) (ir a b c d e))) (f44t18 N a b f c d e _) (cB λa b f c d e=>f44t19 N a b f c d e K)
def f44t16L N (K:KT J):=kf K (bE.Z16L N (λa b c d e=>K (.exit 2) (ir a b c d e)) (λf g=>K .ret (gl f g))) (λa b h c d e k=>bE.Z17 N a b h c d e k (λa b c d e=>K (.exit 2) (ir a b c d e)) (λf g=>K .ret (gl f g))) (λF a b h c d e=>f44t17 N a b h c d e _) (by kernel_rfl)
def f44t16 N a b c d e f (K:KT J):=vL (kE a b c d e f) (f44t16L N (jK lV K) N a b c d e f) (by kernel_rfl)
def f44t15 N a b f c d e (K:KT J):=vB 2 lV K (bE.Z15 N a b f c d e (λa b c d e=>K .nrm (ir a b c d e)) (λg h=>K .ret (gl g h))) (f44t16 N a b f c d e _) (by kernel_rfl)
def f44t13 N a b c d e (K:KT J):=vQ (λk=>bE.Z14 N a b c d e k) (f44t14 N a b c d e _) (cB λa b f c d e=>f44t15 N a b f c d e K)
def f44t12 N a b c d e (K:KT J):=vB 1 lV K (bE.Z12 N a b c d e (λa b c d e=>K .nrm (ir a b c d e)) (λf g=>K .ret (gl f g))) (f44t13 N a b c d e _) (by kernel_rfl)
def f44t37 N a b c d e (K:KT J):fY N 459 (ir a b c d e) lV K =
 bE.Z37 N a b c d e (λa b c d e=>K .nrm (ir a b c d e)):=by kernel_rfl
def f44t11 N a b c d e (K:KT J):=vQ (λk=>bE.Z12 N a b c d e k (λf g=>K .ret (gl f g))) (f44t12 N a b c d e _) (cn λa b c d e=>f44t37 N a b c d e K)
def f44t9 N a b c d e (K:KT J):=vQ (λk=>bE.Z10 N a b c d e k (λa=>K (.exit 0) (po a))) (f44t10 N a b c d e _) (cn λa b c d e=>f44t11 N a b c d e K)
def f44t8L N (K:KT J):=mO K (bE.Z8L N (λa=>K (.exit 0) (po a)) (λb c=>K .ret (gl b c))) (λa d e f g k=>bE.Z9 N a d e f g k (λa=>K (.exit 0) (po a)) (λb c=>K .ret (gl b c))) (λF a d e f g=>f44t9 N a d e f g _) (by kernel_rfl)
def f44t8 N a b c d e (K:KT J):=vL (ir a b c d e) (f44t8L N (jK A4 K) N a b c d e) (by kernel_rfl)
def f44t7 N a b c d e (K:KT J):=vB 0 A4 K (bE.Z7 N a b c d e (λa=>K .nrm (po a)) (λf g=>K .ret (gl f g))) (f44t8 N a b c d e _) (by kernel_rfl)
def f44t5 N a b c d (K:KT J):=vQ (λk=>bE.Z6 N a b c d k) (f44t6 N a b c d _) (cn λa e b c d=>f44t7 N a e b c d K)
def f44t38 N a (K:KT J):fY N 15 (po a) f44lE K =
 bE.Z38 N a (λb c=>K .ret (gl b c)):=by kernel_rfl
def f44t4 N a b c d (K:KT J):=vQ (λk=>bE.Z5 N a b c d k (λe f=>K .ret (gl e f))) (f44t5 N a b c d _) (funext λa=>f44t38 N a K)
def f44t2 N a b c (K:KT J):=vQ (λk=>bE.Z3 N a b c k) (f44t3 N a b c _) (d7 λd a b c=>f44t4 N d a b c K)
def f44t0 N a (K:KT J):=vQ (λk=>bE.Z1 N a k) (f44t1 N a _) (cF λb c d=>f44t2 N b c d K)
def f44ok(h:bE.Spec):aw Tryz.prog 44 AZ :=
 bA Tryz.func44 a8 f44GOk (λN X K=>f44t0 N X.1 K) (by kernel_rfl) λX hb hp=>by obtain⟨a,_⟩:=X;obtain⟨N,h⟩:=h a hb.1 hp;exact⟨N,Eq.trans (by kernel_rfl) (h N (Nat.le_refl N))⟩
def e44ok:aw Tryz.prog 44 AZ:=f44ok bE.ok
def Ju:List PT:=[⟨.sl 22 (.sl 3 (.int .i64)),false,false⟩]
def nw:kb:=⟨Ju,22,.sl 3 (.int .i64),(some λX=>bJ.P X.1),λX=>bJ.g X.1⟩
def Jv:Gm:=aI aY 89 vd
def f45GOk:ao Tryz.prog Jv:=(ao.nil).add Je (by kernel_rfl)
def f45lE:ab:=⟨[],[],[],[],[]⟩
def f45s0(a:LL):St:=od Ju (a,())
def Jw(a:LL):St:=af [(0,.c (.sn 22 (.sl 3 tI) a none))] [] []
def f45l1:ab:=⟨[0],[],[],[],[]⟩
def lW(a:LL):St:=af [(3,xo 1000192)] [] [(1000192,(⟨22,.sl 3 tI,a,false,false⟩:ae))]
def vo:ab:=⟨[3],[],[],[],[(⟨false,3,0⟩,1000192)]⟩
def kF(a:LL)(b:Int):St:=af [(3,xo 1000192),(4,xi b)] [] [(1000192,(⟨22,.sl 3 tI,a,false,false⟩:ae))]
def pp:ab:=⟨[3,4],[],[],[],[(⟨false,3,0⟩,1000192)]⟩
def Jx(a b:LL)(c:Int):St:=af [(3,xo 1000192),(4,xi c),(5,xo 1000320)] [] [(1000192,(⟨22,.sl 3 tI,a,false,false⟩:ae)),(1000320,(⟨22,.sl 3 tI,b,false,false⟩:ae))]
def f45l4:ab:=⟨[3,4,5],[],[⟨⟨false,5,0⟩,30000000,22,.sl 3 (.int .i64),false⟩],[],[(⟨false,3,0⟩,1000192),(⟨false,5,0⟩,1000320)]⟩
def iP(a b:LL)(c d:Int):St:=af [(3,xo 1000192),(4,xi c),(5,xo 1000320),(6,xi d)] [] [(1000192,(⟨22,.sl 3 tI,a,false,false⟩:ae)),(1000320,(⟨22,.sl 3 tI,b,false,false⟩:ae))]
def lX:ab:=⟨[3,4,5,6],[],[],[],[(⟨false,3,0⟩,1000192),(⟨false,5,0⟩,1000320)]⟩
def Jy(a b:LL)(c d e:Int):St:=af [(3,xo 1000192),(4,xi c),(5,xo 1000320),(6,xi d),(7,xi e)] [] [(1000192,(⟨22,.sl 3 tI,a,false,false⟩:ae)),(1000320,(⟨22,.sl 3 tI,b,false,false⟩:ae))]
def f45l6:ab:=⟨[3,4,5,6,7],[],[],[],[(⟨false,3,0⟩,1000192),(⟨false,5,0⟩,1000320)]⟩
def Jz(a b:LL)(c d e f:Int):St:=af [(3,xo 1000192),(4,xi c),(5,xo 1000320),(6,xi d),(7,xi e),(8,xi f)] [] [(1000192,(⟨22,.sl 3 tI,a,false,false⟩:ae)),(1000320,(⟨22,.sl 3 tI,b,false,false⟩:ae))]
def f45l7:ab:=⟨[3,4,5,6,7,8],[],[],[],[(⟨false,3,0⟩,1000192),(⟨false,5,0⟩,1000320)]⟩
def JA(a b:LL)(c d e f g:Int):St:=af [(3,xo 1000192),(4,xi c),(5,xo 1000320),(6,xi d),(7,xi e),(8,xi f),(9,xi g)] [] [(1000192,(⟨22,.sl 3 tI,a,false,false⟩:ae)),(1000320,(⟨22,.sl 3 tI,b,false,false⟩:ae))]
def f45l8:ab:=⟨[3,4,5,6,7,8,9],[],[],[],[(⟨false,3,0⟩,1000192),(⟨false,5,0⟩,1000320)]⟩
def vq(a b:LL)(c d e f g h:Int):St:=af [(3,xo 1000192),(4,xi c),(5,xo 1000320),(6,xi d),(7,xi e),(8,xi f),(9,xi g),(10,xi h)] [] [(1000192,(⟨22,.sl 3 tI,a,false,false⟩:ae)),(1000320,(⟨22,.sl 3 tI,b,false,false⟩:ae))]
def JB:ab:=⟨[3,4,5,6,7,8,9,10],[],[],[],[(⟨false,3,0⟩,1000192),(⟨false,5,0⟩,1000320)]⟩
def pt(a:LL)(b:Int):St:=af [(4,xi b),(5,xo 1000320)] [] [(1000320,(⟨22,.sl 3 tI,a,false,false⟩:ae))]
def A5:ab:=⟨[4,5],[],[],[],[(⟨false,5,0⟩,1000320)]⟩
def f45s11(a:LL):St:=af [(2,xo 1000128)] [] [(1000128,(⟨22,.sl 3 tI,a,false,false⟩:ae))]
def f45l11:ab:=⟨[2],[],[],[],[(⟨false,2,0⟩,1000128)]⟩
def f45B:Nat->Option ab:=aA [(4,lX),(3,lX),(2,A5),(1,pp),(0,vo),(1000000,f45l11)]
abbrev fZ{J:Type}(N n:Nat)(V:St)(l:ab)(K:KT J):Option J:=an Jv aZ f45B N (aT 99 (a7 Tryz.f45) n) .n V (ay (some l) K)
def f45t1 N a (K:KT J):fZ N 2 (f45s0 a) f45l1 K =
 bJ.Z1 N a (λa=>K .nrm (Jw a)):=by kernel_rfl
def f45t3 N a (K:KT J):fZ N 5 (Jw a) vo K =
 bJ.Z3 N a (λb=>K .nrm (lW b)):=by kernel_rfl
def f45t6 N a (K:KT J):fZ N 19 (lW a) pp K =
 bJ.Z6 N a (λa b=>K .nrm (kF a b)):=by kernel_rfl
def f45t10 N a b (K:KT J):fZ N 139 (kF a b) pp K =
 bJ.Z10 N a b (λa b=>K .nrm (kF a b)) (λa=>K (.exit 0) (lW a)):=by kernel_rfl
def f45t14 N a b (K:KT J):fZ N 1099 (kF a b) f45l4 K =
 bJ.Z14 N a b (λa c b=>K .nrm (Jx a c b)):=by kernel_rfl
def f45t17 N a b c (K:KT J):fZ N 4683 (Jx a b c) lX K =
 bJ.Z17 N a b c (λa b c d=>K .nrm (iP a b c d)):=by kernel_rfl
def f45t21 N c a b d (K:KT J):fZ N 35403 (iP c a b d) lX K =
 bJ.Z21 N c a b d (λc a b d=>K .nrm (iP c a b d)) (λa b=>K (.exit 2) (pt a b)):=by kernel_rfl
def f45t25 N a b c d (K:KT J):fZ N 281163 (iP a b c d) f45l6 K =
 bJ.Z25 N a b c d (λa b c d e=>K .nrm (Jy a b c d e)):=by kernel_rfl
def f45t27 N a b c d e (K:KT J):fZ N 674379 (Jy a b c d e) f45l7 K =
 bJ.Z27 N a b c d e (λa b c d e f=>K .nrm (Jz a b c d e f)):=by kernel_rfl
def f45t29 N a b c d e f (K:KT J):fZ N 1460811 (Jz a b c d e f) f45l8 K =
 bJ.Z29 N a b c d e f (λa b c d e f g=>K .nrm (JA a b c d e f g)):=by kernel_rfl
def f45t31 N a b c d e f g (K:KT J):fZ N 3033675 (JA a b c d e f g) JB K =
 bJ.Z31 N a b c d e f g (λa b c d e f g h=>K .nrm (vq a b c d e f g h)):=by kernel_rfl
def f45t34 N a b c d e f g h (K:KT J):fZ N 10373707 (vq a b c d e f g h) JB K =
 bJ.Z34 N a b c d e f g h (λa b c d e f g h=>K .nrm (vq a b c d e f g h)) (λa b c d=>K (.exit 4) (iP a b c d)):=by kernel_rfl
def f45t33L N (K:KT J):=jB K (bJ.Z33L N (λa b c d=>K (.exit 4) (iP a b c d))) (λa b c d e f g h k=>bJ.Z34 N a b c d e f g h k (λa b c d=>K (.exit 4) (iP a b c d))) (λF a b c d e f g h=>f45t34 N a b c d e f g h _) (by kernel_rfl)
def f45t33 N a b c d e f g h (K:KT J):=vL (vq a b c d e f g h) (f45t33L N (jK lX K) N a b c d e f g h) (by kernel_rfl)
def f45t32 N a b c d e f g h (K:KT J):=vB 4 lX K (bJ.Z32 N a b c d e f g h (λa b c d=>K .nrm (iP a b c d))) (f45t33 N a b c d e f g h _) (by kernel_rfl)
def f45t30 N a b c d e f g (K:KT J):=vQ (λk=>bJ.Z31 N a b c d e f g k) (f45t31 N a b c d e f g _) (du λa b c d e f g h=>f45t32 N a b c d e f g h K)
def f45t28 N a b c d e f (K:KT J):=vQ (λk=>bJ.Z29 N a b c d e f k) (f45t29 N a b c d e f _) (eA λa b c d e f g=>f45t30 N a b c d e f g K)
def f45t26 N a b c d e (K:KT J):=vQ (λk=>bJ.Z27 N a b c d e k) (f45t27 N a b c d e _) (cB λa b c d e f=>f45t28 N a b c d e f K)
def f45t24 N a b c d (K:KT J):=vQ (λk=>bJ.Z25 N a b c d k) (f45t25 N a b c d _) (cn λa b c d e=>f45t26 N a b c d e K)
def f45t23 N a b c d (K:KT J):=vB 3 lX K (bJ.Z23 N a b c d (λa b c d=>K .nrm (iP a b c d))) (f45t24 N a b c d _) (by kernel_rfl)
def f45t35 N a b c d (K:KT J):fZ N 117323 (iP a b c d) lX K =
 bJ.Z35 N a b c d (λa b c d=>K .nrm (iP a b c d)):=by kernel_rfl
def f45t22 N a b c d (K:KT J):=vQ (λk=>bJ.Z23 N a b c d k) (f45t23 N a b c d _) (d7 λa b c d=>f45t35 N a b c d K)
def f45t20 N c a b d (K:KT J):=vQ (λk=>bJ.Z21 N c a b d k (λa b=>K (.exit 2) (pt a b))) (f45t21 N c a b d _) (d7 λc a b d=>f45t22 N c a b d K)
def f45t19L N (K:KT J):=mN K (bJ.Z19L N (λa b=>K (.exit 2) (pt a b))) (λc a b d k=>bJ.Z20 N c a b d k (λa b=>K (.exit 2) (pt a b))) (λF c a b d=>f45t20 N c a b d _) (by kernel_rfl)
def f45t19 N a b c d (K:KT J):=vL (iP a b c d) (f45t19L N (jK A5 K) N a b c d) (by kernel_rfl)
def f45t18 N c a b d (K:KT J):=vB 2 A5 K (bJ.Z18 N c a b d (λa b=>K .nrm (pt a b))) (f45t19 N c a b d _) (by kernel_rfl)
def f45t16 N a b c (K:KT J):=vQ (λk=>bJ.Z17 N a b c k) (f45t17 N a b c _) (d7 λa b c d=>f45t18 N a b c d K)
def f45t36 N b a (K:KT J):fZ N 3659 (pt b a) pp K =
 bJ.Z36 N b a (λc a=>K .nrm (kF c a)):=by kernel_rfl
def f45t15 N c a b (K:KT J):=vQ (λk=>bJ.Z16 N c a b k) (f45t16 N c a b _) (cV λa b=>f45t36 N a b K)
def f45t13 N a b (K:KT J):=vQ (λk=>bJ.Z14 N a b k) (f45t14 N a b _) (cF λa c b=>f45t15 N a c b K)
def f45t12 N a b (K:KT J):=vB 1 pp K (bJ.Z12 N a b (λa b=>K .nrm (kF a b))) (f45t13 N a b _) (by kernel_rfl)
def f45t37 N a b (K:KT J):fZ N 459 (kF a b) pp K =
 bJ.Z37 N a b (λa b=>K .nrm (kF a b)):=by kernel_rfl
def f45t11 N a b (K:KT J):=vQ (λk=>bJ.Z12 N a b k) (f45t12 N a b _) (cV λa b=>f45t37 N a b K)
def f45t9 N a b (K:KT J):=vQ (λk=>bJ.Z10 N a b k (λa=>K (.exit 0) (lW a))) (f45t10 N a b _) (cV λa b=>f45t11 N a b K)
def f45t8L N (K:KT J):=tf K (bJ.Z8L N (λa=>K (.exit 0) (lW a))) (λa b k=>bJ.Z9 N a b k (λa=>K (.exit 0) (lW a))) (λF a b=>f45t9 N a b _) (by kernel_rfl)
def f45t8 N a b (K:KT J):=vL (kF a b) (f45t8L N (jK vo K) N a b) (by kernel_rfl)
def f45t7 N a b (K:KT J):=vB 0 vo K (bJ.Z7 N a b (λa=>K .nrm (lW a))) (f45t8 N a b _) (by kernel_rfl)
def f45t5 N a (K:KT J):=vQ (λk=>bJ.Z6 N a k) (f45t6 N a _) (cV λa b=>f45t7 N a b K)
def f45t38 N a (K:KT J):fZ N 15 (lW a) f45lE K =
 bJ.Z38 N a (λb=>K .ret (f45s11 b)):=by kernel_rfl
def f45t4 N a (K:KT J):=vQ (λk=>bJ.Z5 N a k) (f45t5 N a _) (funext λa=>f45t38 N a K)
def f45t2 N a (K:KT J):=vQ (λk=>bJ.Z3 N a k) (f45t3 N a _) (funext λb=>f45t4 N b K)
def f45t0 N a (K:KT J):=vQ (λk=>bJ.Z1 N a k) (f45t1 N a _) (funext λa=>f45t2 N a K)
def f45ok(h:bJ.Spec):kY Tryz.prog 45 nw :=
 MA Tryz.func45 a8 f45GOk (λN X K=>f45t0 N X.1 K) (by kernel_rfl) λX hb hp=>by obtain⟨a,_⟩:=X;obtain⟨N,h⟩:=h a hb.1 hp;exact⟨N,Eq.trans (by kernel_rfl) (h N (Nat.le_refl N))⟩
def e45ok:kY Tryz.prog 45 nw:=f45ok bJ.ok
def JC:ba:=⟨[⟨.pair (.int .i64) (.pair (.int .i64) (.sl 3 (.int .i64))),true,false⟩],[⟨.sl 27 (.pair (.int .i64) (.pair (.int .i64) (.sl 3 (.int .i64)))),false,false⟩,⟨.bool,false,false⟩]⟩
def A6:aQ:=⟨JC,none,λX=>((),((cy.g X.1).1,((cy.g X.1).2,())))⟩
def JD:Gm:=aI (addS (aI (aI aY 25 uv) 44 AZ) 45 nw) 46 rb
def f14GOk:ao Tryz.prog JD:=((((ao.nil).add Gp (by kernel_rfl)).add e44ok (by kernel_rfl)).addS e45ok).add zS (by kernel_rfl)
def f14lE:ab:=⟨[],[],[],[],[]⟩
def f14s0(a:MT):St:=bu JC.ps (a,())
def vr(a b:Int)(c:LI):St:=af [(1,xb 1)] [(1,(27,[yi a,yi b,.sn 3 tI c none]))] []
def JE:ab:=⟨[1],[1],[],[],[]⟩
def JF(a:LM)(b:Bool)(c d:Int)(e:LI):St:=af [(1,xb 1),(4,xo 1000256),(5,xB b)] [(1,(27,[yi c,yi d,.sn 3 tI e none]))] [(1000256,(⟨27,tM 3,a,true,false⟩:ae))]
def f14l2:ab:=⟨[1,4,5],[1],[],[],[(⟨false,4,0⟩,1000256)]⟩
def JG(a:LM)(b c:Int)(d:LI):St:=af [(1,xb 1),(4,xo 1000256)] [(1,(27,[yi b,yi c,.sn 3 tI d none]))] [(1000256,(⟨27,tM 3,a,true,false⟩:ae))]
def f14l3:ab:=⟨[1,4],[1],[],[],[(⟨false,4,0⟩,1000256)]⟩
def JH(a:LM)(b:LL)(c d:Int)(e:LI):St:=af [(1,xb 1),(4,xo 1000256),(6,xo 1000384)] [(1,(27,[yi c,yi d,.sn 3 tI e none]))] [(1000256,(⟨27,tM 3,a,true,false⟩:ae)),(1000384,(⟨22,.sl 3 tI,b,false,false⟩:ae))]
def f14l4:ab:=⟨[1,4,6],[1],[⟨⟨false,6,0⟩,30000000,22,.sl 3 (.int .i64),false⟩],[],[(⟨false,4,0⟩,1000256),(⟨false,6,0⟩,1000384)]⟩
def JI(a:LM)(b:LL)(c d e:Int)(f:LI):St:=af [(1,xb 1),(4,xo 1000256),(6,xo 1000384),(7,xi c)] [(1,(27,[yi d,yi e,.sn 3 tI f none]))] [(1000256,(⟨27,tM 3,a,true,false⟩:ae)),(1000384,(⟨22,.sl 3 tI,b,false,false⟩:ae))]
def f14l5:ab:=⟨[1,4,6,7],[1],[],[],[(⟨false,4,0⟩,1000256),(⟨false,6,0⟩,1000384)]⟩
def JJ(a:LL)(b:LM)(d e f:Int)(g:LI):St:=af [(1,xb 1),(4,.c (.sn 27 (tM 3) b none)),(6,xo 1000384),(7,xi d)] [(1,(27,[yi e,yi f,.sn 3 tI g none]))] [(1000384,(⟨22,.sl 3 tI,a,false,false⟩:ae))]
def f14l6:ab:=⟨[1,4,6,7],[1],[],[(⟨false,4,0⟩,27,.pair (.int .i64) (.pair (.int .i64) (.sl 3 (.int .i64))))],[(⟨false,6,0⟩,1000384)]⟩
def A7(a:LL)(b d:Int)(e:LI):St:=af [(1,xb 1),(6,.c (.sn 22 (.sl 3 tI) a none))] [(1,(27,[yi b,yi d,.sn 3 tI e none]))] []
def JK:ab:=⟨[1,6],[1],[],[(⟨false,6,0⟩,22,.sl 3 (.int .i64))],[]⟩
def JL(a:LL)(b d:Int)(e:LI):St:=af [(1,xb 1),(6,.c (.sn 22 (.sl 3 tI) a none))] [(1,(27,[yi b,yi d,.sn 3 tI e none]))] []
def f14l8:ab:=⟨[1,6],[1],[],[],[]⟩
def JM(a:LL)(b c:Int)(d:LI):St:=af [(1,xb 1),(6,xo 1000384)] [(1,(27,[yi b,yi c,.sn 3 tI d none]))] [(1000384,(⟨22,.sl 3 tI,a,false,false⟩:ae))]
def f14l9:ab:=⟨[1,6],[1],[],[],[(⟨false,6,0⟩,1000384)]⟩
def JN(a:LL)(b:LM)(c d:Int)(e:LI):St:=af [(1,xb 1),(6,xo 1000384),(8,xo 1000512)] [(1,(27,[yi c,yi d,.sn 3 tI e none]))] [(1000384,(⟨22,.sl 3 tI,a,false,false⟩:ae)),(1000512,(⟨27,tM 3,b,true,false⟩:ae))]
def f14l10:ab:=⟨[1,6,8],[1],[],[],[(⟨false,6,0⟩,1000384),(⟨false,8,0⟩,1000512)]⟩
def vt(a:LL)(b:LM)(c d e:Int)(f:LI):St:=af [(1,xb 1),(6,xo 1000384),(8,xo 1000512),(9,xi c)] [(1,(27,[yi d,yi e,.sn 3 tI f none]))] [(1000384,(⟨22,.sl 3 tI,a,false,false⟩:ae)),(1000512,(⟨27,tM 3,b,true,false⟩:ae))]
def JO:ab:=⟨[1,6,8,9],[1],[],[],[(⟨false,6,0⟩,1000384),(⟨false,8,0⟩,1000512)]⟩
def rN(a:LM):St:=af [(8,xo 1000512)] [] [(1000512,(⟨27,tM 3,a,true,false⟩:ae))]
def A8:ab:=⟨[8],[],[],[],[(⟨false,8,0⟩,1000512)]⟩
def rO(a:LM)(b:Bool):St:=af [(2,xo 1000128),(3,xB b)] [] [(1000128,(⟨27,tM 3,a,true,false⟩:ae))]
def f14l13:ab:=⟨[2,3],[],[⟨⟨false,2,0⟩,30000000,27,.pair (.int .i64) (.pair (.int .i64) (.sl 3 (.int .i64))),true⟩],[],[(⟨false,2,0⟩,1000128)]⟩
def f14B:Nat->Option ab:=aA [(0,JK),(2,A8),(1000000,f14l13)]
abbrev iQ{J:Type}(N n:Nat)(V:St)(l:ab)(K:KT J):Option J:=an JD aZ f14B N (aT 99 (a7 Tryz.f14) n) .n V (ay (some l) K)
def f14t1 N a (K:KT J):iQ N 2 (f14s0 a) JE K =
 cy.Z1 N a (λb c d=>K .nrm (vr b c d)):=by kernel_rfl
def f14t3 N a b c (K:KT J):iQ N 5 (vr a b c) JE K =
 cy.Z3 N a b c (λa b c=>K .nrm (vr a b c)) (λd e=>K .ret (rO d e)):=by kernel_rfl
def f14t5 N a b c (K:KT J):iQ N 11 (vr a b c) f14l2 K =
 cy.Z5 N a b c (λd e a b c=>K .nrm (JF d e a b c)):=by kernel_rfl
def f14t7 N a e b c d (K:KT J):iQ N 23 (JF a e b c d) f14l3 K =
 cy.Z7 N a e b c d (λa b c d=>K .nrm (JG a b c d)) (λf g=>K .ret (rO f g)):=by kernel_rfl
def f14t9 N a b c d (K:KT J):iQ N 47 (JG a b c d) f14l4 K =
 cy.Z9 N a b c d (λa e b c d=>K .nrm (JH a e b c d)):=by kernel_rfl
def f14t12 N a b c d e (K:KT J):iQ N 159 (JH a b c d e) f14l5 K =
 cy.Z12 N a b c d e (λa b f c d e=>K .nrm (JI a b f c d e)):=by kernel_rfl
def f14t15 N a e f b c d (K:KT J):iQ N 607 (JJ a e f b c d) f14l6 K =
 cy.Z15 N a e f b c d (λa e f b c d=>K .nrm (JJ a e f b c d)) (λa b c d=>K (.exit 0) (A7 a b c d)):=by kernel_rfl
def f14t14L N (K:KT J):=kf K (cy.Z14L N (λa b c d=>K (.exit 0) (A7 a b c d))) (λa e f b c d k=>cy.Z15 N a e f b c d k (λa b c d=>K (.exit 0) (A7 a b c d))) (λF a e f b c d=>f14t15 N a e f b c d _) (by kernel_rfl)
def f14t14 N a b c d e f (K:KT J):=vL (JI a b c d e f) (f14t14L N (jK JK K) N b a c d e f) (by kernel_rfl)
def f14t13 N e a f b c d (K:KT J):=vB 0 f14l8 K (cy.Z13 N e a f b c d (λa b c d=>K .nrm (JL a b c d))) (f14t14 N e a f b c d _) (by kernel_rfl)
def f14t11 N a b c d e (K:KT J):=vQ (λk=>cy.Z12 N a b c d e k) (f14t12 N a b c d e _) (cB λa b f c d e=>f14t13 N a b f c d e K)
def f14t17 N a b c d (K:KT J):iQ N 191 (JL a b c d) f14l9 K =
 cy.Z17 N a b c d (λa b c d=>K .nrm (JM a b c d)):=by kernel_rfl
def f14t19 N a b c d (K:KT J):iQ N 383 (JM a b c d) f14l10 K =
 cy.Z19 N a b c d (λa e b c d=>K .nrm (JN a e b c d)):=by kernel_rfl
def f14t22 N a b c d e (K:KT J):iQ N 1279 (JN a b c d e) JO K =
 cy.Z22 N a b c d e (λa b f c d e=>K .nrm (vt a b f c d e)):=by kernel_rfl
def f14t25 N b a c d e f (K:KT J):iQ N 4863 (vt b a c d e f) JO K =
 cy.Z25 N b a c d e f (λb a c d e f=>K .nrm (vt b a c d e f)) (λa=>K (.exit 2) (rN a)):=by kernel_rfl
def f14t24L N (K:KT J):=kf K (cy.Z24L N (λa=>K (.exit 2) (rN a))) (λb a c d e f k=>cy.Z25 N b a c d e f k (λa=>K (.exit 2) (rN a))) (λF b a c d e f=>f14t25 N b a c d e f _) (by kernel_rfl)
def f14t24 N a b c d e f (K:KT J):=vL (vt a b c d e f) (f14t24L N (jK A8 K) N a b c d e f) (by kernel_rfl)
def f14t23 N b a c d e f (K:KT J):=vB 2 A8 K (cy.Z23 N b a c d e f (λa=>K .nrm (rN a))) (f14t24 N b a c d e f _) (by kernel_rfl)
def f14t21 N a b c d e (K:KT J):=vQ (λk=>cy.Z22 N a b c d e k) (f14t22 N a b c d e _) (cB λa b f c d e=>f14t23 N a b f c d e K)
def f14t26 N a (K:KT J):iQ N 1023 (rN a) f14lE K =
 cy.Z26 N a (λb c=>K .ret (rO b c)):=by kernel_rfl
def f14t20 N b a c d e (K:KT J):=vQ (λk=>cy.Z21 N b a c d e k) (f14t21 N b a c d e _) (funext λa=>f14t26 N a K)
def f14t18 N a b c d (K:KT J):=vQ (λk=>cy.Z19 N a b c d k) (f14t19 N a b c d _) (cn λa e b c d=>f14t20 N a e b c d K)
def f14t16 N a b c d (K:KT J):=vQ (λk=>cy.Z17 N a b c d k) (f14t17 N a b c d _) (d7 λa b c d=>f14t18 N a b c d K)
def f14t10 N e a b c d (K:KT J):=vQ (λk=>cy.Z11 N e a b c d k) (f14t11 N e a b c d _) (d7 λa b c d=>f14t16 N a b c d K)
def f14t8 N a b c d (K:KT J):=vQ (λk=>cy.Z9 N a b c d k) (f14t9 N a b c d _) (cn λa e b c d=>f14t10 N a e b c d K)
def f14t6 N a e b c d (K:KT J):=vQ (λk=>cy.Z7 N a e b c d k (λf g=>K .ret (rO f g))) (f14t7 N a e b c d _) (d7 λa b c d=>f14t8 N a b c d K)
def f14t4 N a b c (K:KT J):=vQ (λk=>cy.Z5 N a b c k) (f14t5 N a b c _) (cn λd e a b c=>f14t6 N d e a b c K)
def f14t2 N a b c (K:KT J):=vQ (λk=>cy.Z3 N a b c k (λd e=>K .ret (rO d e))) (f14t3 N a b c _) (cF λa b c=>f14t4 N a b c K)
def f14t0 N a (K:KT J):=vQ (λk=>cy.Z1 N a k) (f14t1 N a _) (cF λb c d=>f14t2 N b c d K)
def f14ok(h:cy.Spec):aw Tryz.prog 14 A6 :=
 bA Tryz.func14 a8 f14GOk (λN X K=>f14t0 N X.1 K) (by kernel_rfl) λX hb hp=>by obtain⟨a,_⟩:=X;obtain⟨N,h⟩:=h a hb.1;exact⟨N,Eq.trans (by kernel_rfl) (h N (Nat.le_refl N))⟩
def e14ok:aw Tryz.prog 14 A6:=f14ok cy.ok
def JP:ba:=⟨[⟨.pair (.int .i64) (.pair (.int .i64) (.sl 3 (.int .i64))),true,false⟩],[⟨.pair (.int .i64) (.pair (.int .i64) (.sl 3 (.int .i64))),true,false⟩]⟩
def A9:aQ:=⟨JP,none,λX=>((),((jv.g X.1),()))⟩
def JQ:Gm:=aI (aI aY 63 nn) 69 oY
def f31GOk:ao Tryz.prog JQ:=((ao.nil).add rC (by kernel_rfl)).add uO (by kernel_rfl)
def f31lE:ab:=⟨[],[],[],[],[]⟩
def f31s0(a:MT):St:=bu JP.ps (a,())
def f31s1(a:LI)(b c:Int):St:=af [(2,xb 2)] [(2,(27,[yi b,yi c,.own 20000130]))] [(20000130,(⟨3,.int .i64,a,true,false⟩:ae))]
def f31l1:ab:=⟨[2],[2],[⟨⟨true,2,2⟩,30000000,3,.int .i64,true⟩],[],[(⟨true,2,2⟩,20000130)]⟩
def f31B:Nat->Option ab:=aA [(1000000,f31l1)]
abbrev f31j{J:Type}(N n:Nat)(V:St)(l:ab)(K:KT J):Option J:=an JQ aZ f31B N (aT 99 (a7 Tryz.f31) n) .n V (ay (some l) K)
def f31t0 N a (K:KT J):f31j N 1 (f31s0 a) f31lE K =
 jv.Z0 N a (λb c d=>K .ret (f31s1 b c d)):=by kernel_rfl
def f31ok(h:jv.Spec):aw Tryz.prog 31 A9 :=
 bA Tryz.func31 a8 f31GOk (λN X K=>f31t0 N X.1 K) (by kernel_rfl) λX hb hp=>by obtain⟨a,_⟩:=X;obtain⟨N,h⟩:=h a hb.1;exact⟨N,Eq.trans (by kernel_rfl) (h N (Nat.le_refl N))⟩
def e31ok:aw Tryz.prog 31 A9:=f31ok jv.ok
def JR:ba:=⟨[⟨.pair (.int .i64) (.pair (.int .i64) (.sl 3 (.int .i64))),true,false⟩],[⟨.sl 27 (.pair (.int .i64) (.pair (.int .i64) (.sl 3 (.int .i64)))),false,false⟩,⟨.bool,false,false⟩]⟩
def vu:aQ:=⟨JR,none,λX=>((),((bR.g X.1).1,((bR.g X.1).2,())))⟩
def JS:Gm:=aI (aI (aI aY 15 u9) 31 A9) 83 oU
def f42GOk:ao Tryz.prog JS:=(((ao.nil).add IY (by kernel_rfl)).add e31ok (by kernel_rfl)).add uG (by kernel_rfl)
def f42lE:ab:=⟨[],[],[],[],[]⟩
def f42s0(a:MT):St:=bu JR.ps (a,())
def JT(a b:Int)(c:LI):St:=af [(1,xb 1)] [(1,(27,[yi a,yi b,.sn 3 tI c none]))] []
def f42l1:ab:=⟨[1],[1],[],[],[]⟩
def JU(a:LM)(b:Bool):St:=af [(4,xo 1000256),(5,xB b)] [] [(1000256,(⟨27,tM 3,a,true,false⟩:ae))]
def f42l2:ab:=⟨[4,5],[],[],[],[(⟨false,4,0⟩,1000256)]⟩
def lY(a:LM):St:=af [(4,xo 1000256)] [] [(1000256,(⟨27,tM 3,a,true,false⟩:ae))]
def vv:ab:=⟨[4],[],[],[],[(⟨false,4,0⟩,1000256)]⟩
def it(a:LM)(b c:Int):St:=af [(4,xo 1000256),(18,xo 1000256),(19,xi b),(20,xi c)] [] [(1000256,(⟨27,tM 3,a,true,false⟩:ae))]
def lZ:ab:=⟨[4,18,19,20],[],[],[],[(⟨false,4,0⟩,1000256)]⟩
def JV(a:LM)(b c:Int)(d:Bool):St:=af [(4,xo 1000256),(18,xo 1000256),(19,xi b),(20,xi c),(21,xB d)] [] [(1000256,(⟨27,tM 3,a,true,false⟩:ae))]
def f42l5:ab:=⟨[4,18,19,20,21],[],[],[],[(⟨false,4,0⟩,1000256)]⟩
def JW(a:LM)(b c d e:Int)(f:LI):St:=af [(4,xo 1000256),(7,xb 7),(18,xo 1000256),(19,xi b),(20,xi c)] [(7,(27,[yi d,yi e,.sn 3 tI f (some 1000256)]))] [(1000256,(⟨27,tM 3,a,true,false⟩:ae))]
def f42l6:ab:=⟨[4,7,18,19,20],[7],[],[],[(⟨false,4,0⟩,1000256)]⟩
def iR(a:LM)(b c d e f:Int)(g:LI):St:=af [(4,xo 1000256),(7,xb 7),(8,xi b),(18,xo 1000256),(19,xi c),(20,xi d)] [(7,(27,[yi e,yi f,.sn 3 tI g (some 1000256)]))] [(1000256,(⟨27,tM 3,a,true,false⟩:ae))]
def l0:ab:=⟨[4,7,8,18,19,20],[7],[],[],[(⟨false,4,0⟩,1000256)]⟩
def vw(a:LM)(b c d e f g:Int)(h:LI):St:=af [(4,xo 1000256),(7,xb 7),(8,xi b),(9,xi c),(18,xo 1000256),(19,xi d),(20,xi e)] [(7,(27,[yi f,yi g,.sn 3 tI h (some 1000256)]))] [(1000256,(⟨27,tM 3,a,true,false⟩:ae))]
def JX:ab:=⟨[4,7,8,9,18,19,20],[7],[],[],[(⟨false,4,0⟩,1000256)]⟩
def fA(a:LM)(b:Bool):St:=af [(2,xo 1000128),(3,xB b)] [] [(1000128,(⟨27,tM 3,a,true,false⟩:ae))]
def f42l9:ab:=⟨[2,3],[],[⟨⟨false,2,0⟩,30000000,27,.pair (.int .i64) (.pair (.int .i64) (.sl 3 (.int .i64))),true⟩],[],[(⟨false,2,0⟩,1000128)]⟩
def f42B:Nat->Option ab:=aA [(4,l0),(3,l0),(2,lZ),(1,lZ),(0,vv),(1000000,f42l9)]
abbrev gH{J:Type}(N n:Nat)(V:St)(l:ab)(K:KT J):Option J:=an JS aZ f42B N (aT 99 (a7 Tryz.f42) n) .n V (ay (some l) K)
def f42t1 N a (K:KT J):gH N 2 (f42s0 a) f42l1 K =
 bR.Z1 N a (λb c d=>K .nrm (JT b c d)):=by kernel_rfl
def f42t3 N a b c (K:KT J):gH N 5 (JT a b c) f42l2 K =
 bR.Z3 N a b c (λd e=>K .nrm (JU d e)):=by kernel_rfl
def f42t5 N a b (K:KT J):gH N 11 (JU a b) vv K =
 bR.Z5 N a b (λa=>K .nrm (lY a)) (λc d=>K .ret (fA c d)):=by kernel_rfl
def f42t8 N a (K:KT J):gH N 39 (lY a) lZ K =
 bR.Z8 N a (λa b c=>K .nrm (it a b c)):=by kernel_rfl
def f42t12 N a b c (K:KT J):gH N 279 (it a b c) f42l5 K =
 bR.Z12 N a b c (λa b c d=>K .nrm (JV a b c d)):=by kernel_rfl
def f42t14 N a b c d (K:KT J):gH N 663 (JV a b c d) lZ K =
 bR.Z14 N a b c d (λa b c=>K .nrm (it a b c)) (λa=>K (.exit 0) (lY a)):=by kernel_rfl
def f42t18 N a b c (K:KT J):gH N 4503 (it a b c) f42l6 K =
 bR.Z18 N a b c (λa b c d e f=>K .nrm (JW a b c d e f)):=by kernel_rfl
def f42t20 N a b c d e f (K:KT J):gH N 10647 (JW a b c d e f) l0 K =
 bR.Z20 N a b c d e f (λa g b c d e f=>K .nrm (iR a g b c d e f)):=by kernel_rfl
def f42t24 N a d b c e f g (K:KT J):gH N 72087 (iR a d b c e f g) l0 K =
 bR.Z24 N a d b c e f g (λa d b c e f g=>K .nrm (iR a d b c e f g)) (λa b c=>K (.exit 2) (it a b c)):=by kernel_rfl
def f42t28 N a b c d e f g (K:KT J):gH N 563607 (iR a b c d e f g) JX K =
 bR.Z28 N a b c d e f g (λa b h c d e f g=>K .nrm (vw a b h c d e f g)):=by kernel_rfl
def f42t31 N a b h c d e f g (K:KT J):gH N 2398615 (vw a b h c d e f g) JX K =
 bR.Z31 N a b h c d e f g (λa b h c d e f g=>K .nrm (vw a b h c d e f g)) (λa b c d e f g=>K (.exit 4) (iR a b c d e f g)) (λi j=>K .ret (fA i j)):=by kernel_rfl
def f42t30L N (K:KT J):=jB K (bR.Z30L N (λa b c d e f g=>K (.exit 4) (iR a b c d e f g)) (λh i=>K .ret (fA h i))) (λa b j c d e f g k=>bR.Z31 N a b j c d e f g k (λa b c d e f g=>K (.exit 4) (iR a b c d e f g)) (λh i=>K .ret (fA h i))) (λF a b j c d e f g=>f42t31 N a b j c d e f g _) (by kernel_rfl)
def f42t30 N a b c d e f g h (K:KT J):=vL (vw a b c d e f g h) (f42t30L N (jK l0 K) N a b c d e f g h) (by kernel_rfl)
def f42t29 N a b h c d e f g (K:KT J):=vB 4 l0 K (bR.Z29 N a b h c d e f g (λa b c d e f g=>K .nrm (iR a b c d e f g)) (λi j=>K .ret (fA i j))) (f42t30 N a b h c d e f g _) (by kernel_rfl)
def f42t27 N a b c d e f g (K:KT J):=vQ (λk=>bR.Z28 N a b c d e f g k) (f42t28 N a b c d e f g _) (du λa b h c d e f g=>f42t29 N a b h c d e f g K)
def f42t26 N a b c d e f g (K:KT J):=vB 3 l0 K (bR.Z26 N a b c d e f g (λa b c d e f g=>K .nrm (iR a b c d e f g)) (λh i=>K .ret (fA h i))) (f42t27 N a b c d e f g _) (by kernel_rfl)
def f42t32 N a b c d e f g (K:KT J):gH N 235927 (iR a b c d e f g) l0 K =
 bR.Z32 N a b c d e f g (λa b c d e f g=>K .nrm (iR a b c d e f g)):=by kernel_rfl
def f42t25 N a b c d e f g (K:KT J):=vQ (λk=>bR.Z26 N a b c d e f g k (λh i=>K .ret (fA h i))) (f42t26 N a b c d e f g _) (eA λa b c d e f g=>f42t32 N a b c d e f g K)
def f42t23 N a d b c e f g (K:KT J):=vQ (λk=>bR.Z24 N a d b c e f g k (λa b c=>K (.exit 2) (it a b c))) (f42t24 N a d b c e f g _) (eA λa d b c e f g=>f42t25 N a d b c e f g K)
def f42t22L N (K:KT J):=qx K (bR.Z22L N (λa b c=>K (.exit 2) (it a b c)) (λd e=>K .ret (fA d e))) (λa f b c g h i k=>bR.Z23 N a f b c g h i k (λa b c=>K (.exit 2) (it a b c)) (λd e=>K .ret (fA d e))) (λF a f b c g h i=>f42t23 N a f b c g h i _) (by kernel_rfl)
def f42t22 N a b c d e f g (K:KT J):=vL (iR a b c d e f g) (f42t22L N (jK lZ K) N a b c d e f g) (by kernel_rfl)
def f42t21 N a d b c e f g (K:KT J):=vB 2 lZ K (bR.Z21 N a d b c e f g (λa b c=>K .nrm (it a b c)) (λh i=>K .ret (fA h i))) (f42t22 N a d b c e f g _) (by kernel_rfl)
def f42t19 N a b c d e f (K:KT J):=vQ (λk=>bR.Z20 N a b c d e f k) (f42t20 N a b c d e f _) (eA λa g b c d e f=>f42t21 N a g b c d e f K)
def f42t17 N a b c (K:KT J):=vQ (λk=>bR.Z18 N a b c k) (f42t18 N a b c _) (cB λa b c d e f=>f42t19 N a b c d e f K)
def f42t16 N a b c (K:KT J):=vB 1 lZ K (bR.Z16 N a b c (λa b c=>K .nrm (it a b c)) (λd e=>K .ret (fA d e))) (f42t17 N a b c _) (by kernel_rfl)
def f42t33 N a b c (K:KT J):gH N 1943 (it a b c) lZ K =
 bR.Z33 N a b c (λa b c=>K .nrm (it a b c)):=by kernel_rfl
def f42t15 N a b c (K:KT J):=vQ (λk=>bR.Z16 N a b c k (λd e=>K .ret (fA d e))) (f42t16 N a b c _) (cF λa b c=>f42t33 N a b c K)
def f42t13 N a b c d (K:KT J):=vQ (λk=>bR.Z14 N a b c d k (λa=>K (.exit 0) (lY a))) (f42t14 N a b c d _) (cF λa b c=>f42t15 N a b c K)
def f42t11 N a b c (K:KT J):=vQ (λk=>bR.Z12 N a b c k) (f42t12 N a b c _) (d7 λa b c d=>f42t13 N a b c d K)
def f42t10L N (K:KT J):=g8 K (bR.Z10L N (λa=>K (.exit 0) (lY a)) (λb c=>K .ret (fA b c))) (λa d e k=>bR.Z11 N a d e k (λa=>K (.exit 0) (lY a)) (λb c=>K .ret (fA b c))) (λF a d e=>f42t11 N a d e _) (by kernel_rfl)
def f42t10 N a b c (K:KT J):=vL (it a b c) (f42t10L N (jK vv K) N a b c) (by kernel_rfl)
def f42t9 N a b c (K:KT J):=vB 0 vv K (bR.Z9 N a b c (λa=>K .nrm (lY a)) (λd e=>K .ret (fA d e))) (f42t10 N a b c _) (by kernel_rfl)
def f42t7 N a (K:KT J):=vQ (λk=>bR.Z8 N a k) (f42t8 N a _) (cF λa b c=>f42t9 N a b c K)
def f42t34 N a (K:KT J):gH N 31 (lY a) f42lE K =
 bR.Z34 N a (λb c=>K .ret (fA b c)):=by kernel_rfl
def f42t6 N a (K:KT J):=vQ (λk=>bR.Z7 N a k (λb c=>K .ret (fA b c))) (f42t7 N a _) (funext λa=>f42t34 N a K)
def f42t4 N a b (K:KT J):=vQ (λk=>bR.Z5 N a b k (λc d=>K .ret (fA c d))) (f42t5 N a b _) (funext λa=>f42t6 N a K)
def f42t2 N a b c (K:KT J):=vQ (λk=>bR.Z3 N a b c k) (f42t3 N a b c _) (cV λd e=>f42t4 N d e K)
def f42t0 N a (K:KT J):=vQ (λk=>bR.Z1 N a k) (f42t1 N a _) (cF λb c d=>f42t2 N b c d K)
def f42ok(h:bR.Spec):aw Tryz.prog 42 vu :=
 bA Tryz.func42 a8 f42GOk (λN X K=>f42t0 N X.1 K) (by kernel_rfl) λX hb hp=>by obtain⟨a,_⟩:=X;obtain⟨N,h⟩:=h a hb.1;exact⟨N,Eq.trans (by kernel_rfl) (h N (Nat.le_refl N))⟩
def JY:aw Tryz.prog 42 vu:=f42ok bR.ok
def JZ:ba:=⟨[⟨.pair (.int .i64) (.pair (.int .i64) (.sl 3 (.int .i64))),true,false⟩],[⟨.bool,false,false⟩]⟩
def Ba:aQ:=⟨JZ,none,λX=>((),((kK.g X.1),()))⟩
def J0:Gm:=aI aY 42 vu
def f12GOk:ao Tryz.prog J0:=(ao.nil).add JY (by kernel_rfl)
def f12lE:ab:=⟨[],[],[],[],[]⟩
def f12s0(a:MT):St:=bu JZ.ps (a,())
def f12s1(a:Bool):St:=af [(2,xB a)] [] []
def f12l1:ab:=⟨[2],[],[],[],[]⟩
def f12B:Nat->Option ab:=aA [(1000000,f12l1)]
abbrev f12j{J:Type}(N n:Nat)(V:St)(l:ab)(K:KT J):Option J:=an J0 aZ f12B N (aT 99 (a7 Tryz.f12) n) .n V (ay (some l) K)
def f12t0 N a (K:KT J):f12j N 1 (f12s0 a) f12lE K =
 kK.Z0 N a (λb=>K .ret (f12s1 b)):=by kernel_rfl
def f12ok(h:kK.Spec):aw Tryz.prog 12 Ba :=
 bA Tryz.func12 a8 f12GOk (λN X K=>f12t0 N X.1 K) (by kernel_rfl) λX hb hp=>by obtain⟨a,_⟩:=X;obtain⟨N,h⟩:=h a hb.1;exact⟨N,Eq.trans (by kernel_rfl) (h N (Nat.le_refl N))⟩
def e12ok:aw Tryz.prog 12 Ba:=f12ok kK.ok
def f76sig:ba:=⟨[⟨.pair (.int .i64) (.pair (.int .i64) (.sl 3 (.int .i64))),true,false⟩],[⟨.sl 22 (.sl 3 (.int .i64)),false,false⟩,⟨.bool,false,false⟩]⟩
def Bb:aQ:=⟨f76sig,(some λX=>jV.P X.1),λX=>((),((jV.g X.1).1,((jV.g X.1).2,())))⟩
def f76ok(_:True):aw Tryz.prog 76 Bb:=λ_ _ _ X y Y _ _ _ _ hg=>nomatch (show(none:Option _)=some (y,Y)from hg)
def e76ok:aw Tryz.prog 76 Bb:=f76ok jV.ok
def f77sig:ba:=⟨[⟨.pair (.int .i64) (.pair (.int .i64) (.sl 3 (.int .i64))),true,false⟩,⟨.sl 3 (.int .i64),false,false⟩],[⟨.str,false,false⟩]⟩
def Bc:aQ:=⟨f77sig,(some λX=>kM.P X.1 X.2.1),λX=>((),((kM.g X.1 X.2.1),()))⟩
def f77ok(_:True):aw Tryz.prog 77 Bc:=λ_ _ _ X y Y _ _ _ _ hg=>nomatch (show(none:Option _)=some (y,Y)from hg)
def e77ok:aw Tryz.prog 77 Bc:=f77ok kM.ok
def f78sig:ba:=⟨[⟨.sl 9 (.str),false,true⟩],[]⟩
def Bd:aQ:=⟨f78sig,(some λX=>kN.P X.1),λX=>((kN.g X.1),())⟩
def f78ok(_:True):aw Tryz.prog 78 Bd:=λ_ _ _ X y Y _ _ _ _ hg=>nomatch (show(none:Option _)=some (y,Y)from hg)
def e78ok:aw Tryz.prog 78 Bd:=f78ok kN.ok
def J1:ba:=⟨[⟨.pair (.int .i64) (.pair (.int .i64) (.sl 3 (.int .i64))),true,false⟩],[⟨.str,false,false⟩]⟩
def Be:aQ:=⟨J1,(some λX=>bW.P X.1),λX=>((),((bW.g X.1),()))⟩
def J2:Gm:=aI (aI (aI (aI (aI aY 42 vu) 76 Bb) 77 Bc) 78 Bd) 79 u6
def f33GOk:ao Tryz.prog J2:=(((((ao.nil).add JY (by kernel_rfl)).add e76ok (by kernel_rfl)).add e77ok (by kernel_rfl)).add e78ok (by kernel_rfl)).add Iw (by kernel_rfl)
def f33lE:ab:=⟨[],[],[],[],[]⟩
def f33s0(a:MT):St:=bu J1.ps (a,())
def J3(a b:Int)(c:LI):St:=af [(1,xb 1)] [(1,(27,[yi a,yi b,.sn 3 tI c none]))] []
def f33l1:ab:=⟨[1],[1],[],[],[]⟩
def J4(a:LM)(b:Bool):St:=af [(3,xo 1000192),(4,xB b)] [] [(1000192,(⟨27,tM 3,a,true,false⟩:ae))]
def f33l2:ab:=⟨[3,4],[],[],[],[(⟨false,3,0⟩,1000192)]⟩
def J5(a:LM):St:=af [(3,xo 1000192)] [] [(1000192,(⟨27,tM 3,a,true,false⟩:ae))]
def f33l3:ab:=⟨[3],[],[],[],[(⟨false,3,0⟩,1000192)]⟩
def jT(a:LM)(b c:Int):St:=af [(19,xo 1001216),(20,xi b),(21,xi c)] [] [(1001216,(⟨27,tM 3,a,true,false⟩:ae))]
def px:ab:=⟨[19,20,21],[],[],[],[(⟨false,19,0⟩,1001216)]⟩
def J6(a:LM)(b c:Int)(d:Bool):St:=af [(19,xo 1001216),(20,xi b),(21,xi c),(22,xB d)] [] [(1001216,(⟨27,tM 3,a,true,false⟩:ae))]
def f33l5:ab:=⟨[19,20,21,22],[],[],[],[(⟨false,19,0⟩,1001216)]⟩
def J7(a:LM)(b c d e:Int)(f:LI):St:=af [(6,xb 6),(19,xo 1001216),(20,xi b),(21,xi c)] [(6,(27,[yi d,yi e,.sn 3 tI f (some 1001216)]))] [(1001216,(⟨27,tM 3,a,true,false⟩:ae))]
def f33l6:ab:=⟨[6,19,20,21],[6],[],[],[(⟨false,19,0⟩,1001216)]⟩
def J8(a:LL)(b:LM)(c:Bool)(d e f g:Int)(h:LI):St:=af [(6,xb 6),(7,xo 1000448),(8,xB c),(19,xo 1001216),(20,xi d),(21,xi e)] [(6,(27,[yi f,yi g,.sn 3 tI h (some 1001216)]))] [(1000448,(⟨22,.sl 3 tI,a,true,false⟩:ae)),(1001216,(⟨27,tM 3,b,true,false⟩:ae))]
def f33l7:ab:=⟨[6,7,8,19,20,21],[6],[],[],[(⟨false,7,0⟩,1000448),(⟨false,19,0⟩,1001216)]⟩
def J9(a:LL)(b:LM)(c d:Int)(e:LI):St:=af [(6,xb 6),(7,xo 1000448),(19,xo 1001216)] [(6,(27,[yi c,yi d,.sn 3 tI e (some 1001216)]))] [(1000448,(⟨22,.sl 3 tI,a,true,false⟩:ae)),(1001216,(⟨27,tM 3,b,true,false⟩:ae))]
def f33l8:ab:=⟨[6,7,19],[6],[],[],[(⟨false,7,0⟩,1000448),(⟨false,19,0⟩,1001216)]⟩
def Ka(a:LL)(b:LM)(d e:Int)(f:LI):St:=af [(6,xb 6),(7,xo 1000448),(9,.c (.nil)),(19,xo 1001216)] [(6,(27,[yi d,yi e,.sn 3 tI f (some 1001216)]))] [(1000448,(⟨22,.sl 3 tI,a,true,false⟩:ae)),(1001216,(⟨27,tM 3,b,true,false⟩:ae))]
def f33l9:ab:=⟨[6,7,9,19],[6],[],[],[(⟨false,7,0⟩,1000448),(⟨false,19,0⟩,1001216)]⟩
def Kb(a:LM)(b:LL)(d e f g:Int)(h:LI):St:=af [(6,xb 6),(9,.c (.nil)),(19,xo 1001216),(32,xo 1002048),(33,xi d),(34,xi e)] [(6,(27,[yi f,yi g,.sn 3 tI h (some 1001216)]))] [(1001216,(⟨27,tM 3,a,true,false⟩:ae)),(1002048,(⟨22,.sl 3 tI,b,true,false⟩:ae))]
def f33l10:ab:=⟨[6,9,19,32,33,34],[6],[],[],[(⟨false,19,0⟩,1001216),(⟨false,32,0⟩,1002048)]⟩
def Kc(a:List ByteArray)(b:LM)(c:LL)(d e f g:Int)(h:LI):St:=af [(6,xb 6),(9,xo 1000576),(19,xo 1001216),(32,xo 1002048),(33,xi d),(34,xi e)] [(6,(27,[yi f,yi g,.sn 3 tI h (some 1001216)]))] [(1000576,(⟨9,.str,a,true,false⟩:ae)),(1001216,(⟨27,tM 3,b,true,false⟩:ae)),(1002048,(⟨22,.sl 3 tI,c,true,false⟩:ae))]
def f33l11:ab:=⟨[6,9,19,32,33,34],[6],[⟨⟨false,9,0⟩,30000000,9,.str,true⟩],[],[(⟨false,9,0⟩,1000576),(⟨false,19,0⟩,1001216),(⟨false,32,0⟩,1002048)]⟩
def rP(a:List ByteArray):St:=af [(9,xo 1000576)] [] [(1000576,(⟨9,.str,a,true,false⟩:ae))]
def Bf:ab:=⟨[9],[],[],[],[(⟨false,9,0⟩,1000576)]⟩
def py :St:=af [] [] []
def Bg:ab:=⟨[],[],[],[],[]⟩
def jU(a:ByteArray):St:=af [(2,.c (.str a))] [] []
def f33l14:ab:=⟨[2],[],[],[],[]⟩
def f33B:Nat->Option ab:=aA [(2,Bf),(1,px),(0,Bg),(1000000,f33l14)]
abbrev gn{J:Type}(N n:Nat)(V:St)(l:ab)(K:KT J):Option J:=an J2 aZ f33B N (aT 99 (a7 Tryz.f33) n) .n V (ay (some l) K)
def f33t1 N a (K:KT J):gn N 2 (f33s0 a) f33l1 K =
 bW.Z1 N a (λb c d=>K .nrm (J3 b c d)):=by kernel_rfl
def f33t3 N a b c (K:KT J):gn N 5 (J3 a b c) f33l2 K =
 bW.Z3 N a b c (λd e=>K .nrm (J4 d e)):=by kernel_rfl
def f33t5 N a b (K:KT J):gn N 11 (J4 a b) f33l3 K =
 bW.Z5 N a b (λa=>K .nrm (J5 a)) (λc=>K .ret (jU c)):=by kernel_rfl
def f33t8 N a (K:KT J):gn N 39 (J5 a) px K =
 bW.Z8 N a (λb c d=>K .nrm (jT b c d)):=by kernel_rfl
def f33t12 N a b c (K:KT J):gn N 279 (jT a b c) f33l5 K =
 bW.Z12 N a b c (λa b c d=>K .nrm (J6 a b c d)):=by kernel_rfl
def f33t14 N a b c d (K:KT J):gn N 663 (J6 a b c d) px K =
 bW.Z14 N a b c d (λa b c=>K .nrm (jT a b c)) (K (.exit 0) py):=by kernel_rfl
def f33t18 N a b c (K:KT J):gn N 4503 (jT a b c) f33l6 K =
 bW.Z18 N a b c (λa b c d e f=>K .nrm (J7 a b c d e f)):=by kernel_rfl
def f33t20 N a b c d e f (K:KT J):gn N 10647 (J7 a b c d e f) f33l7 K =
 bW.Z20 N a b c d e f (λg a h b c d e f=>K .nrm (J8 g a h b c d e f)):=by kernel_rfl
def f33t22 N b a h c d e f g (K:KT J):gn N 22935 (J8 b a h c d e f g) f33l8 K =
 bW.Z22 N b a h c d e f g (λb a e f g=>K .nrm (J9 b a e f g)) (λa c d=>K (.exit 1) (jT a c d)):=by kernel_rfl
def f33t24 N a b c d e (K:KT J):gn N 47511 (J9 a b c d e) f33l9 K =
 bW.Z24 N a b c d e (λa b c d e=>K .nrm (Ka a b c d e)):=by kernel_rfl
def f33t27 N e a b c d (K:KT J):gn N 162199 (Ka e a b c d) f33l10 K =
 bW.Z27 N e a b c d (λa f g h b c d=>K .nrm (Kb a f g h b c d)):=by kernel_rfl
def f33t30 N a b c d e f g h (K:KT J):gn N 620951 (Kc a b c d e f g h) f33l11 K =
 bW.Z30 N a b c d e f g h (λa b c d e f g h=>K .nrm (Kc a b c d e f g h)) (λa=>K (.exit 2) (rP a)):=by kernel_rfl
def f33t29L N (K:KT J):=jB K (bW.Z29L N (λa=>K (.exit 2) (rP a))) (λa b c d e f g h k=>bW.Z30 N a b c d e f g h k (λa=>K (.exit 2) (rP a))) (λF a b c d e f g h=>f33t30 N a b c d e f g h _) (by kernel_rfl)
def f33t29 N a b c d e f g (K:KT J):=vL (Kb a b c d e f g) (f33t29L N (jK Bf K) N ([]:List ByteArray) a b c d e f g) (by kernel_rfl)
def f33t28 N a b c d e f g (K:KT J):=vB 2 Bf K (bW.Z28 N a b c d e f g (λh=>K .nrm (rP h))) (f33t29 N a b c d e f g _) (by kernel_rfl)
def f33t26 N e a b c d (K:KT J):=vQ (λk=>bW.Z27 N e a b c d k) (f33t27 N e a b c d _) (eA λa f g h b c d=>f33t28 N a f g h b c d K)
def f33t31 N a (K:KT J):gn N 129431 (rP a) px K =
 bW.Z31 N a (λb=>K .ret (jU b)):=by kernel_rfl
def f33t25 N a b c d e (K:KT J):=vQ (λk=>bW.Z26 N a b c d e k) (f33t26 N a b c d e _) (funext λf=>f33t31 N f K)
def f33t23 N a b c d e (K:KT J):=vQ (λk=>bW.Z24 N a b c d e k) (f33t24 N a b c d e _) (cn λa b c d e=>f33t25 N a b c d e K)
def f33t21 N b a h c d e f g (K:KT J):=vQ (λk=>bW.Z22 N b a h c d e f g k (λa c d=>K (.exit 1) (jT a c d))) (f33t22 N b a h c d e f g _) (cn λb a e f g=>f33t23 N b a e f g K)
def f33t19 N a b c d e f (K:KT J):=vQ (λk=>bW.Z20 N a b c d e f k) (f33t20 N a b c d e f _) (du λg a h b c d e f=>f33t21 N g a h b c d e f K)
def f33t17 N a b c (K:KT J):=vQ (λk=>bW.Z18 N a b c k) (f33t18 N a b c _) (cB λa b c d e f=>f33t19 N a b c d e f K)
def f33t16 N a b c (K:KT J):=vB 1 px K (bW.Z16 N a b c (λa b c=>K .nrm (jT a b c)) (λd=>K .ret (jU d))) (f33t17 N a b c _) (by kernel_rfl)
def f33t32 N a b c (K:KT J):gn N 1943 (jT a b c) px K =
 bW.Z32 N a b c (λa b c=>K .nrm (jT a b c)):=by kernel_rfl
def f33t15 N a b c (K:KT J):=vQ (λk=>bW.Z16 N a b c k (λd=>K .ret (jU d))) (f33t16 N a b c _) (cF λa b c=>f33t32 N a b c K)
def f33t13 N a b c d (K:KT J):=vQ (λk=>bW.Z14 N a b c d k (K (.exit 0) py)) (f33t14 N a b c d _) (cF λa b c=>f33t15 N a b c K)
def f33t11 N a b c (K:KT J):=vQ (λk=>bW.Z12 N a b c k) (f33t12 N a b c _) (d7 λa b c d=>f33t13 N a b c d K)
def f33t10L N (K:KT J):=g8 K (bW.Z10L N (K (.exit 0) py) (λa=>K .ret (jU a))) (λb c d k=>bW.Z11 N b c d k (K (.exit 0) py) (λa=>K .ret (jU a))) (λF b c d=>f33t11 N b c d _) (by kernel_rfl)
def f33t10 N a b c (K:KT J):=vL (jT a b c) (f33t10L N (jK Bg K) N a b c) (by kernel_rfl)
def f33t9 N a b c (K:KT J):=vB 0 Bg K (bW.Z9 N a b c (K .nrm py) (λd=>K .ret (jU d))) (f33t10 N a b c _) (by kernel_rfl)
def f33t7 N a (K:KT J):=vQ (λk=>bW.Z8 N a k) (f33t8 N a _) (cF λb c d=>f33t9 N b c d K)
def f33t33 N  (K:KT J):gn N 31 py f33lE K =
 bW.Z33 N (λa=>K .ret (jU a)):=by kernel_rfl
def f33t6 N a (K:KT J):=vQ (λk=>bW.Z7 N a k (λb=>K .ret (jU b))) (f33t7 N a _) (f33t33 N K)
def f33t4 N a b (K:KT J):=vQ (λk=>bW.Z5 N a b k (λc=>K .ret (jU c))) (f33t5 N a b _) (funext λa=>f33t6 N a K)
def f33t2 N a b c (K:KT J):=vQ (λk=>bW.Z3 N a b c k) (f33t3 N a b c _) (cV λd e=>f33t4 N d e K)
def f33t0 N a (K:KT J):=vQ (λk=>bW.Z1 N a k) (f33t1 N a _) (cF λb c d=>f33t2 N b c d K)
def f33ok(h:bW.Spec):aw Tryz.prog 33 Be :=
 bA Tryz.func33 a8 f33GOk (λN X K=>f33t0 N X.1 K) (by kernel_rfl) λX hb hp=>by obtain⟨a,_⟩:=X;obtain⟨N,h⟩:=h a hb.1 hp;exact⟨N,Eq.trans (by kernel_rfl) (h N (Nat.le_refl N))⟩
def e33ok:aw Tryz.prog 33 Be:=f33ok bW.ok
def Kd:ba:=⟨[⟨.pair (.int .i64) (.pair (.int .i64) (.sl 3 (.int .i64))),true,false⟩,⟨.sl 3 (.int .i64),false,false⟩],[⟨.pair (.int .i64) (.pair (.int .i64) (.sl 3 (.int .i64))),true,false⟩,⟨.bool,false,false⟩]⟩
def Bh:aQ:=⟨Kd,none,λX=>((),((db.g X.1 X.2.1).1,((db.g X.1 X.2.1).2,())))⟩
def Ke:Gm:=aI (aI (aI aY 48 u7) 63 nn) 69 oY
def f29GOk:ao Tryz.prog Ke:=(((ao.nil).add IM (by kernel_rfl)).add rC (by kernel_rfl)).add uO (by kernel_rfl)
def f29lE:ab:=⟨[],[],[],[],[]⟩
def f29s0(a:MT)(b:LI):St:=bu Kd.ps (a,(b,()))
def vz(a:LI)(b d:Int)(e:LI)(f g:Int):St:=af [(1,.c (.sn 3 tI a none)),(2,xb 2),(4,xb 4)] [(2,(27,[yi b,yi d,.sn 3 tI e none])),(4,(27,[yi f,yi g,.nil]))] []
def Kf:ab:=⟨[1,2,4],[2,4],[],[],[]⟩
def vA(a b:LI)(d e f g:Int):St:=af [(1,.c (.sn 3 tI b none)),(4,xb 4),(6,xb 6)] [(4,(27,[yi d,yi e,.nil])),(6,(27,[yi f,yi g,.own 20000386]))] [(20000386,(⟨3,.int .i64,a,true,false⟩:ae))]
def Kg:ab:=⟨[1,4,6],[4,6],[],[],[(⟨true,6,2⟩,20000386)]⟩
def vC(a b:LI)(d e f g h i:Int):St:=af [(4,xb 4),(6,xb 6),(27,.c (.sn 3 tI b none)),(28,xi d),(29,xi e)] [(4,(27,[yi f,yi g,.nil])),(6,(27,[yi h,yi i,.own 20000386]))] [(20000386,(⟨3,.int .i64,a,true,false⟩:ae))]
def Kh:ab:=⟨[4,6,27,28,29],[4,6],[],[],[(⟨true,6,2⟩,20000386)]⟩
def rQ(a:LI)(b c d e:Int):St:=af [(4,xb 4),(6,xb 6)] [(4,(27,[yi b,yi c,.nil])),(6,(27,[yi d,yi e,.own 20000386]))] [(20000386,(⟨3,.int .i64,a,true,false⟩:ae))]
def Bi:ab:=⟨[4,6],[4,6],[],[],[(⟨true,6,2⟩,20000386)]⟩
def l5(a:LI)(b:Bool)(c d:Int):St:=af [(4,xb 4),(5,xB b)] [(4,(27,[yi c,yi d,.own 20000258]))] [(20000258,(⟨3,.int .i64,a,true,false⟩:ae))]
def f29l5:ab:=⟨[4,5],[4],[⟨⟨true,4,2⟩,30000000,3,.int .i64,true⟩],[],[(⟨true,4,2⟩,20000258)]⟩
def f29B:Nat->Option ab:=aA [(0,Bi),(1000000,f29l5)]
abbrev ny{J:Type}(N n:Nat)(V:St)(l:ab)(K:KT J):Option J:=an Ke aZ f29B N (aT 99 (a7 Tryz.f29) n) .n V (ay (some l) K)
def f29t1 N b a (K:KT J):ny N 2 (f29s0 b a) Kf K =
 db.Z1 N b a (λa c d e f g=>K .nrm (vz a c d e f g)):=by kernel_rfl
def f29t3 N c d e f a b (K:KT J):ny N 5 (vz c d e f a b) Kf K =
 db.Z3 N c d e f a b (λc d e f a b=>K .nrm (vz c d e f a b)) (λg h a b=>K .ret (l5 g h a b)):=by kernel_rfl
def f29t5 N a d e f b c (K:KT J):ny N 11 (vz a d e f b c) Kg K =
 db.Z5 N a d e f b c (λg a b c h i=>K .nrm (vA g a b c h i)):=by kernel_rfl
def f29t7 N a b c d e f (K:KT J):ny N 23 (vA a b c d e f) Kg K =
 db.Z7 N a b c d e f (λa b c d e f=>K .nrm (vA a b c d e f)):=by kernel_rfl
def f29t10 N a f b c d e (K:KT J):ny N 79 (vA a f b c d e) Kh K =
 db.Z10 N a f b c d e (λa g h i b c d e=>K .nrm (vC a g h i b c d e)):=by kernel_rfl
def f29t13 N c f g h a b d e (K:KT J):ny N 303 (vC c f g h a b d e) Kh K =
 db.Z13 N c f g h a b d e (λc f g h a b d e=>K .nrm (vC c f g h a b d e)) (λc a b d e=>K (.exit 0) (rQ c a b d e)) (λi j a b=>K .ret (l5 i j a b)):=by kernel_rfl
def f29t12L N (K:KT J):=jB K (db.Z12L N (λc a b d e=>K (.exit 0) (rQ c a b d e)) (λf g a b=>K .ret (l5 f g a b))) (λc h i j a b d e k=>db.Z13 N c h i j a b d e k (λc a b d e=>K (.exit 0) (rQ c a b d e)) (λf g a b=>K .ret (l5 f g a b))) (λF c h i j a b d e=>f29t13 N c h i j a b d e _) (by kernel_rfl)
def f29t12 N a b c d e f g h (K:KT J):=vL (vC a b c d e f g h) (f29t12L N (jK Bi K) N a b c d e f g h) (by kernel_rfl)
def f29t11 N c f g h a b d e (K:KT J):=vB 0 Bi K (db.Z11 N c f g h a b d e (λc a b d e=>K .nrm (rQ c a b d e)) (λi j a b=>K .ret (l5 i j a b))) (f29t12 N c f g h a b d e _) (by kernel_rfl)
def f29t9 N a f b c d e (K:KT J):=vQ (λk=>db.Z10 N a f b c d e k) (f29t10 N a f b c d e _) (du λa g h i b c d e=>f29t11 N a g h i b c d e K)
def f29t14 N c a b d e (K:KT J):ny N 63 (rQ c a b d e) f29lE K =
 db.Z14 N c a b d e (λf g a b=>K .ret (l5 f g a b)):=by kernel_rfl
def f29t8 N c f a b d e (K:KT J):=vQ (λk=>db.Z9 N c f a b d e k (λg h a b=>K .ret (l5 g h a b))) (f29t9 N c f a b d e _) (cn λc a b d e=>f29t14 N c a b d e K)
def f29t6 N a b c d e f (K:KT J):=vQ (λk=>db.Z7 N a b c d e f k) (f29t7 N a b c d e f _) (cB λa b c d e f=>f29t8 N a b c d e f K)
def f29t4 N a d e f b c (K:KT J):=vQ (λk=>db.Z5 N a d e f b c k) (f29t5 N a d e f b c _) (cB λg a b c h i=>f29t6 N g a b c h i K)
def f29t2 N c d e f a b (K:KT J):=vQ (λk=>db.Z3 N c d e f a b k (λg h a b=>K .ret (l5 g h a b))) (f29t3 N c d e f a b _) (cB λc d e f a b=>f29t4 N c d e f a b K)
def f29t0 N b a (K:KT J):=vQ (λk=>db.Z1 N b a k) (f29t1 N b a _) (cB λa c d e f g=>f29t2 N a c d e f g K)
def f29ok(h:db.Spec):aw Tryz.prog 29 Bh :=
 bA Tryz.func29 a8 f29GOk (λN X K=>f29t0 N X.1 X.2.1 K) (by kernel_rfl) λX hb hp=>by obtain⟨a,b,_⟩:=X;obtain⟨N,h⟩:=h a b hb.1 hb.2.1;exact⟨N,Eq.trans (by kernel_rfl) (h N (Nat.le_refl N))⟩
def e29ok:aw Tryz.prog 29 Bh:=f29ok db.ok
def Ki:ba:=⟨[⟨.sl 3 (.int .i64),false,false⟩,⟨.sl 3 (.int .i64),false,false⟩],[⟨.bool,false,false⟩]⟩
def Bj:aQ:=⟨Ki,none,λX=>((),((eR.g X.1 X.2.1),()))⟩
def Kj:Gm:=aY
def f67GOk:ao Tryz.prog Kj:=ao.nil
def f67lE:ab:=⟨[],[],[],[],[]⟩
def f67s0(a b:LI):St:=bu Ki.ps (a,(b,()))
def vD(a b:LI):St:=af [(0,.c (.sn 3 tI a none)),(1,.c (.sn 3 tI b none))] [] []
def Kk:ab:=⟨[0,1],[],[],[],[]⟩
def vE(a b:LI)(d:Int):St:=af [(0,.c (.sn 3 tI a none)),(1,.c (.sn 3 tI b none)),(5,xi d)] [] []
def Kl:ab:=⟨[0,1,5],[],[],[],[]⟩
def rR :St:=af [] [] []
def Bk:ab:=⟨[],[],[],[],[]⟩
def l6(a:Bool):St:=af [(4,xB a)] [] []
def f67l4:ab:=⟨[4],[],[],[],[]⟩
def f67B:Nat->Option ab:=aA [(0,Bk),(1000000,f67l4)]
abbrev rS{J:Type}(N n:Nat)(V:St)(l:ab)(K:KT J):Option J:=an Kj aZ f67B N (aT 99 (a7 Tryz.f67) n) .n V (ay (some l) K)
def f67t1 N a b (K:KT J):rS N 2 (f67s0 a b) Kk K =
 eR.Z1 N a b (λa b=>K .nrm (vD a b)):=by kernel_rfl
def f67t3 N a b (K:KT J):rS N 5 (vD a b) Kk K =
 eR.Z3 N a b (λa b=>K .nrm (vD a b)) (λc=>K .ret (l6 c)):=by kernel_rfl
def f67t6 N a b (K:KT J):rS N 19 (vD a b) Kl K =
 eR.Z6 N a b (λa b c=>K .nrm (vE a b c)):=by kernel_rfl
def f67t9 N a b c (K:KT J):rS N 75 (vE a b c) Kl K =
 eR.Z9 N a b c (λa b c=>K .nrm (vE a b c)) (K (.exit 0) rR) (λd=>K .ret (l6 d)):=by kernel_rfl
def f67t8L N (K:KT J):=g8 K (eR.Z8L N (K (.exit 0) rR) (λa=>K .ret (l6 a))) (λb c d k=>eR.Z9 N b c d k (K (.exit 0) rR) (λa=>K .ret (l6 a))) (λF b c d=>f67t9 N b c d _) (by kernel_rfl)
def f67t8 N a b c (K:KT J):=vL (vE a b c) (f67t8L N (jK Bk K) N a b c) (by kernel_rfl)
def f67t7 N a b c (K:KT J):=vB 0 Bk K (eR.Z7 N a b c (K .nrm rR) (λd=>K .ret (l6 d))) (f67t8 N a b c _) (by kernel_rfl)
def f67t5 N a b (K:KT J):=vQ (λk=>eR.Z6 N a b k) (f67t6 N a b _) (cF λa b c=>f67t7 N a b c K)
def f67t10 N  (K:KT J):rS N 15 rR f67lE K =
 eR.Z10 N (λa=>K .ret (l6 a)):=by kernel_rfl
def f67t4 N a b (K:KT J):=vQ (λk=>eR.Z5 N a b k (λc=>K .ret (l6 c))) (f67t5 N a b _) (f67t10 N K)
def f67t2 N a b (K:KT J):=vQ (λk=>eR.Z3 N a b k (λc=>K .ret (l6 c))) (f67t3 N a b _) (cV λa b=>f67t4 N a b K)
def f67t0 N a b (K:KT J):=vQ (λk=>eR.Z1 N a b k) (f67t1 N a b _) (cV λa b=>f67t2 N a b K)
def f67ok(h:eR.Spec):aw Tryz.prog 67 Bj :=
 bA Tryz.func67 a8 f67GOk (λN X K=>f67t0 N X.1 X.2.1 K) (by kernel_rfl) λX hb hp=>by obtain⟨a,b,_⟩:=X;obtain⟨N,h⟩:=h a b hb.1 hb.2.1;exact⟨N,Eq.trans (by kernel_rfl) (h N (Nat.le_refl N))⟩
def e67ok:aw Tryz.prog 67 Bj:=f67ok eR.ok
def Km:ba:=⟨[⟨.pair (.int .i64) (.pair (.int .i64) (.sl 3 (.int .i64))),true,false⟩,⟨.pair (.int .i64) (.pair (.int .i64) (.sl 3 (.int .i64))),true,false⟩],[⟨.bool,false,false⟩]⟩
def Bl:aQ:=⟨Km,none,λX=>((),((iT.g X.1 X.2.1),()))⟩
def Kn:Gm:=aI aY 67 Bj
def f26GOk:ao Tryz.prog Kn:=(ao.nil).add e67ok (by kernel_rfl)
def f26lE:ab:=⟨[],[],[],[],[]⟩
def f26s0(a b:MT):St:=bu Km.ps (a,(b,()))
def f26s1(a:Bool):St:=af [(4,xB a)] [] []
def f26l1:ab:=⟨[4],[],[],[],[]⟩
def f26B:Nat->Option ab:=aA [(1000000,f26l1)]
abbrev f26j{J:Type}(N n:Nat)(V:St)(l:ab)(K:KT J):Option J:=an Kn aZ f26B N (aT 99 (a7 Tryz.f26) n) .n V (ay (some l) K)
def f26t0 N a b (K:KT J):f26j N 1 (f26s0 a b) f26lE K =
 iT.Z0 N a b (λc=>K .ret (f26s1 c)):=by kernel_rfl
def f26ok(h:iT.Spec):aw Tryz.prog 26 Bl :=
 bA Tryz.func26 a8 f26GOk (λN X K=>f26t0 N X.1 X.2.1 K) (by kernel_rfl) λX hb hp=>by obtain⟨a,b,_⟩:=X;obtain⟨N,h⟩:=h a b hb.1 hb.2.1;exact⟨N,Eq.trans (by kernel_rfl) (h N (Nat.le_refl N))⟩
def e26ok:aw Tryz.prog 26 Bl:=f26ok iT.ok
def Ko:ba:=⟨[⟨.sl 3 (.int .i64),false,false⟩,⟨.sl 3 (.int .i64),false,false⟩],[⟨.bool,false,false⟩]⟩
def Bm:aQ:=⟨Ko,none,λX=>((),((fC.g X.1 X.2.1),()))⟩
def Kp:Gm:=aY
def f35GOk:ao Tryz.prog Kp:=ao.nil
def f35lE:ab:=⟨[],[],[],[],[]⟩
def f35s0(a b:LI):St:=bu Ko.ps (a,(b,()))
def nz(a b:LI):St:=af [(0,.c (.sn 3 tI a none)),(1,.c (.sn 3 tI b none))] [] []
def vF:ab:=⟨[0,1],[],[],[],[]⟩
def vG(a b:LI)(d:Int):St:=af [(0,.c (.sn 3 tI a none)),(1,.c (.sn 3 tI b none)),(5,xi d)] [] []
def Kq:ab:=⟨[0,1,5],[],[],[],[]⟩
def pA(a:Bool):St:=af [(4,xB a)] [] []
def f35l3:ab:=⟨[4],[],[],[],[]⟩
def f35B:Nat->Option ab:=aA [(0,vF),(1000000,f35l3)]
abbrev vH{J:Type}(N n:Nat)(V:St)(l:ab)(K:KT J):Option J:=an Kp aZ f35B N (aT 99 (a7 Tryz.f35) n) .n V (ay (some l) K)
def f35t1 N a b (K:KT J):vH N 2 (f35s0 a b) vF K =
 fC.Z1 N a b (λa b=>K .nrm (nz a b)):=by kernel_rfl
def f35t4 N a b (K:KT J):vH N 9 (nz a b) Kq K =
 fC.Z4 N a b (λa b c=>K .nrm (vG a b c)):=by kernel_rfl
def f35t7 N a b c (K:KT J):vH N 37 (vG a b c) Kq K =
 fC.Z7 N a b c (λa b c=>K .nrm (vG a b c)) (λa b=>K (.exit 0) (nz a b)) (λd=>K .ret (pA d)):=by kernel_rfl
def f35t6L N (K:KT J):=g8 K (fC.Z6L N (λa b=>K (.exit 0) (nz a b)) (λc=>K .ret (pA c))) (λa b d k=>fC.Z7 N a b d k (λa b=>K (.exit 0) (nz a b)) (λc=>K .ret (pA c))) (λF a b d=>f35t7 N a b d _) (by kernel_rfl)
def f35t6 N a b c (K:KT J):=vL (vG a b c) (f35t6L N (jK vF K) N a b c) (by kernel_rfl)
def f35t5 N a b c (K:KT J):=vB 0 vF K (fC.Z5 N a b c (λa b=>K .nrm (nz a b)) (λd=>K .ret (pA d))) (f35t6 N a b c _) (by kernel_rfl)
def f35t3 N a b (K:KT J):=vQ (λk=>fC.Z4 N a b k) (f35t4 N a b _) (cF λa b c=>f35t5 N a b c K)
def f35t8 N a b (K:KT J):vH N 7 (nz a b) f35lE K =
 fC.Z8 N a b (λc=>K .ret (pA c)):=by kernel_rfl
def f35t2 N a b (K:KT J):=vQ (λk=>fC.Z3 N a b k (λc=>K .ret (pA c))) (f35t3 N a b _) (cV λa b=>f35t8 N a b K)
def f35t0 N a b (K:KT J):=vQ (λk=>fC.Z1 N a b k) (f35t1 N a b _) (cV λa b=>f35t2 N a b K)
def f35ok(h:fC.Spec):aw Tryz.prog 35 Bm :=
 bA Tryz.func35 a8 f35GOk (λN X K=>f35t0 N X.1 X.2.1 K) (by kernel_rfl) λX hb hp=>by obtain⟨a,b,_⟩:=X;obtain⟨N,h⟩:=h a b hb.1 hb.2.1;exact⟨N,Eq.trans (by kernel_rfl) (h N (Nat.le_refl N))⟩
def e35ok:aw Tryz.prog 35 Bm:=f35ok fC.ok
def Kr:ba:=⟨[⟨.sl 5 (.int .u8),false,false⟩],[⟨.bool,false,false⟩]⟩
def e7:aQ:=⟨Kr,none,λX=>((),((cp.g X.1),()))⟩
def Ks:Gm:=aI (aI (aI (aI (aI (aI (aI (aI (aI (aI aY 12 Ba) 14 A6) 15 u9) 20 zl) 26 Bl) 27 Ac) 29 Bh) 33 Be) 34 u4) 35 Bm
def f7GOk:ao Tryz.prog Ks:=((((((((((ao.nil).add e12ok (by kernel_rfl)).add e14ok (by kernel_rfl)).add IY (by kernel_rfl)).add Px (by kernel_rfl)).add e26ok (by kernel_rfl)).add e27ok (by kernel_rfl)).add e29ok (by kernel_rfl)).add e33ok (by kernel_rfl)).add Is (by kernel_rfl)).add e35ok (by kernel_rfl)
def f7lE:ab:=⟨[],[],[],[],[]⟩
def f7s0(a:List Int):St:=bu Kr.ps (a,())
def vJ(a:List Int):St:=af [(0,.c (.sn 5 (.int .u8) a none))] [] []
def Kt:ab:=⟨[0],[],[],[],[]⟩
def Ku(a b:LI)(c d:Int):St:=af [(3,xb 3),(4,xo 1000256)] [(3,(27,[yi c,yi d,.own 20000194]))] [(1000256,(⟨3,.int .i64,a,true,false⟩:ae)),(20000194,(⟨3,.int .i64,b,true,false⟩:ae))]
def f7l2:ab:=⟨[3,4],[3],[],[],[(⟨false,4,0⟩,1000256),(⟨true,3,2⟩,20000194)]⟩
def vK(a:LI)(b:LM)(c:LI)(d:Bool)(e f:Int):St:=af [(3,xb 3),(4,xo 1000256),(5,xo 1000320),(6,xB d)] [(3,(27,[yi e,yi f,.own 20000194]))] [(1000256,(⟨3,.int .i64,a,true,false⟩:ae)),(1000320,(⟨27,tM 3,b,true,false⟩:ae)),(20000194,(⟨3,.int .i64,c,true,false⟩:ae))]
def Kv:ab:=⟨[3,4,5,6],[3],[],[],[(⟨false,4,0⟩,1000256),(⟨false,5,0⟩,1000320),(⟨true,3,2⟩,20000194)]⟩
def Kw(a:LI)(b:LM)(c:LI)(d e:Bool)(f g:Int):St:=af [(3,xb 3),(4,xo 1000256),(5,xo 1000320),(6,xB d),(8,xB e)] [(3,(27,[yi f,yi g,.own 20000194]))] [(1000256,(⟨3,.int .i64,a,true,false⟩:ae)),(1000320,(⟨27,tM 3,b,true,false⟩:ae)),(20000194,(⟨3,.int .i64,c,true,false⟩:ae))]
def f7l4:ab:=⟨[3,4,5,6,8],[3],[],[],[(⟨false,4,0⟩,1000256),(⟨false,5,0⟩,1000320),(⟨true,3,2⟩,20000194)]⟩
def Kx(a:LI)(b:LM)(c:LI)(d e:Int):St:=af [(3,xb 3),(4,xo 1000256),(5,xo 1000320)] [(3,(27,[yi d,yi e,.own 20000194]))] [(1000256,(⟨3,.int .i64,a,true,false⟩:ae)),(1000320,(⟨27,tM 3,b,true,false⟩:ae)),(20000194,(⟨3,.int .i64,c,true,false⟩:ae))]
def f7l5:ab:=⟨[3,4,5],[3],[],[],[(⟨false,4,0⟩,1000256),(⟨false,5,0⟩,1000320),(⟨true,3,2⟩,20000194)]⟩
def Ky(a:LM)(b c:LI)(d:Bool)(e f g h:Int):St:=af [(3,xb 3),(5,xo 1000320),(9,xb 9),(10,xB d)] [(3,(27,[yi e,yi f,.own 20000194])),(9,(27,[yi g,yi h,.own 20000578]))] [(1000320,(⟨27,tM 3,a,true,false⟩:ae)),(20000194,(⟨3,.int .i64,b,true,false⟩:ae)),(20000578,(⟨3,.int .i64,c,true,false⟩:ae))]
def f7l6:ab:=⟨[3,5,9,10],[3,9],[],[],[(⟨false,5,0⟩,1000320),(⟨true,3,2⟩,20000194),(⟨true,9,2⟩,20000578)]⟩
def Kz(a:LM)(b c:LI)(d e f g:Int):St:=af [(3,xb 3),(5,xo 1000320),(9,xb 9)] [(3,(27,[yi d,yi e,.own 20000194])),(9,(27,[yi f,yi g,.own 20000578]))] [(1000320,(⟨27,tM 3,a,true,false⟩:ae)),(20000194,(⟨3,.int .i64,b,true,false⟩:ae)),(20000578,(⟨3,.int .i64,c,true,false⟩:ae))]
def f7l7:ab:=⟨[3,5,9],[3,9],[],[],[(⟨false,5,0⟩,1000320),(⟨true,3,2⟩,20000194),(⟨true,9,2⟩,20000578)]⟩
def KA(a b:LM)(c:LI)(d:Bool)(e f:Int):St:=af [(3,xb 3),(5,xo 1000320),(11,xo 1000704),(12,xB d)] [(3,(27,[yi e,yi f,.own 20000194]))] [(1000320,(⟨27,tM 3,a,true,false⟩:ae)),(1000704,(⟨27,tM 3,b,true,false⟩:ae)),(20000194,(⟨3,.int .i64,c,true,false⟩:ae))]
def f7l8:ab:=⟨[3,5,11,12],[3],[],[],[(⟨false,5,0⟩,1000320),(⟨false,11,0⟩,1000704),(⟨true,3,2⟩,20000194)]⟩
def KB(a b:LM)(c:LI)(d e:Int):St:=af [(3,xb 3),(5,xo 1000320),(11,xo 1000704)] [(3,(27,[yi d,yi e,.own 20000194]))] [(1000320,(⟨27,tM 3,a,true,false⟩:ae)),(1000704,(⟨27,tM 3,b,true,false⟩:ae)),(20000194,(⟨3,.int .i64,c,true,false⟩:ae))]
def f7l9:ab:=⟨[3,5,11],[3],[],[],[(⟨false,5,0⟩,1000320),(⟨false,11,0⟩,1000704),(⟨true,3,2⟩,20000194)]⟩
def KC(a b:LM)(c:LI)(d:Bool)(e f:Int):St:=af [(5,xo 1000320),(11,xo 1000704),(13,xb 13),(14,xB d)] [(13,(27,[yi e,yi f,.own 20000834]))] [(1000320,(⟨27,tM 3,a,true,false⟩:ae)),(1000704,(⟨27,tM 3,b,true,false⟩:ae)),(20000834,(⟨3,.int .i64,c,true,false⟩:ae))]
def f7l10:ab:=⟨[5,11,13,14],[13],[],[],[(⟨false,5,0⟩,1000320),(⟨false,11,0⟩,1000704),(⟨true,13,2⟩,20000834)]⟩
def KD(a b:LM)(c:LI)(d e:Bool)(f g:Int):St:=af [(5,xo 1000320),(11,xo 1000704),(13,xb 13),(14,xB d),(15,xB e)] [(13,(27,[yi f,yi g,.own 20000834]))] [(1000320,(⟨27,tM 3,a,true,false⟩:ae)),(1000704,(⟨27,tM 3,b,true,false⟩:ae)),(20000834,(⟨3,.int .i64,c,true,false⟩:ae))]
def f7l11:ab:=⟨[5,11,13,14,15],[13],[],[],[(⟨false,5,0⟩,1000320),(⟨false,11,0⟩,1000704),(⟨true,13,2⟩,20000834)]⟩
def vM(a b:LM)(c:LI)(d e:Bool)(f g h:Int):St:=af [(5,xo 1000320),(11,xo 1000704),(13,xb 13),(14,xB d),(15,xB e),(16,xi f)] [(13,(27,[yi g,yi h,.own 20000834]))] [(1000320,(⟨27,tM 3,a,true,false⟩:ae)),(1000704,(⟨27,tM 3,b,true,false⟩:ae)),(20000834,(⟨3,.int .i64,c,true,false⟩:ae))]
def KE:ab:=⟨[5,11,13,14,15,16],[13],[],[],[(⟨false,5,0⟩,1000320),(⟨false,11,0⟩,1000704),(⟨true,13,2⟩,20000834)]⟩
def rT(a b:Bool):St:=af [(14,xB a),(15,xB b)] [] []
def Bn:ab:=⟨[14,15],[],[],[],[]⟩
def f5(a:Bool):St:=af [(2,xB a)] [] []
def f7l14:ab:=⟨[2],[],[],[],[]⟩
def f7B:Nat->Option ab:=aA [(0,Bn),(1000000,f7l14)]
abbrev f8{J:Type}(N n:Nat)(V:St)(l:ab)(K:KT J):Option J:=an Ks aZ f7B N (aT 99 (a7 Tryz.f7) n) .n V (ay (some l) K)
def f7t1 N a (K:KT J):f8 N 2 (f7s0 a) Kt K =
 cp.Z1 N a (λa=>K .nrm (vJ a)):=by kernel_rfl
def f7t3 N a (K:KT J):f8 N 5 (vJ a) Kt K =
 cp.Z3 N a (λa=>K .nrm (vJ a)) (λb=>K .ret (f5 b)):=by kernel_rfl
def f7t5 N a (K:KT J):f8 N 11 (vJ a) f7l2 K =
 cp.Z5 N a (λb c d e=>K .nrm (Ku b c d e)):=by kernel_rfl
def f7t7 N a b c d (K:KT J):f8 N 23 (Ku a b c d) Kv K =
 cp.Z7 N a b c d (λa e b f c d=>K .nrm (vK a e b f c d)):=by kernel_rfl
def f7t9 N a b c d e f (K:KT J):f8 N 47 (vK a b c d e f) f7l4 K =
 cp.Z9 N a b c d e f (λa b c d g e f=>K .nrm (Kw a b c d g e f)):=by kernel_rfl
def f7t11 N a b c d g e f (K:KT J):f8 N 95 (Kw a b c d g e f) Kv K =
 cp.Z11 N a b c d g e f (λa b c d e f=>K .nrm (vK a b c d e f)) (λh=>K .ret (f5 h)):=by kernel_rfl
def f7t13 N a b c f d e (K:KT J):f8 N 191 (vK a b c f d e) f7l5 K =
 cp.Z13 N a b c f d e (λa b c d e=>K .nrm (Kx a b c d e)) (λg=>K .ret (f5 g)):=by kernel_rfl
def f7t15 N e a b c d (K:KT J):f8 N 383 (Kx e a b c d) f7l6 K =
 cp.Z15 N e a b c d (λa b f g c d h i=>K .nrm (Ky a b f g c d h i)):=by kernel_rfl
def f7t17 N a b c h d e f g (K:KT J):f8 N 767 (Ky a b c h d e f g) f7l7 K =
 cp.Z17 N a b c h d e f g (λa b c d e f g=>K .nrm (Kz a b c d e f g)) (λi=>K .ret (f5 i)):=by kernel_rfl
def f7t19 N a b e c d f g (K:KT J):f8 N 1535 (Kz a b e c d f g) f7l8 K =
 cp.Z19 N a b e c d f g (λa h b i c d=>K .nrm (KA a h b i c d)):=by kernel_rfl
def f7t21 N a b c f d e (K:KT J):f8 N 3071 (KA a b c f d e) f7l9 K =
 cp.Z21 N a b c f d e (λa b c d e=>K .nrm (KB a b c d e)) (λg=>K .ret (f5 g)):=by kernel_rfl
def f7t23 N a b c d e (K:KT J):f8 N 6143 (KB a b c d e) f7l10 K =
 cp.Z23 N a b c d e (λa b f g h i=>K .nrm (KC a b f g h i)):=by kernel_rfl
def f7t25 N a b c d e f (K:KT J):f8 N 12287 (KC a b c d e f) f7l11 K =
 cp.Z25 N a b c d e f (λa b c d g e f=>K .nrm (KD a b c d g e f)):=by kernel_rfl
def f7t28 N a b c d e f g (K:KT J):f8 N 40959 (KD a b c d e f g) KE K =
 cp.Z28 N a b c d e f g (λa b c d e h f g=>K .nrm (vM a b c d e h f g)):=by kernel_rfl
def f7t31 N c d e a b f g h (K:KT J):f8 N 155647 (vM c d e a b f g h) KE K =
 cp.Z31 N c d e a b f g h (λc d e a b f g h=>K .nrm (vM c d e a b f g h)) (λa b=>K (.exit 0) (rT a b)) (λi=>K .ret (f5 i)):=by kernel_rfl
def f7t30L N (K:KT J):=jB K (cp.Z30L N (λa b=>K (.exit 0) (rT a b)) (λc=>K .ret (f5 c))) (λd e f a b g h i k=>cp.Z31 N d e f a b g h i k (λa b=>K (.exit 0) (rT a b)) (λc=>K .ret (f5 c))) (λF d e f a b g h i=>f7t31 N d e f a b g h i _) (by kernel_rfl)
def f7t30 N a b c d e f g h (K:KT J):=vL (vM a b c d e f g h) (f7t30L N (jK Bn K) N a b c d e f g h) (by kernel_rfl)
def f7t29 N c d e a b f g h (K:KT J):=vB 0 Bn K (cp.Z29 N c d e a b f g h (λa b=>K .nrm (rT a b)) (λi=>K .ret (f5 i))) (f7t30 N c d e a b f g h _) (by kernel_rfl)
def f7t27 N a b c d e f g (K:KT J):=vQ (λk=>cp.Z28 N a b c d e f g k) (f7t28 N a b c d e f g _) (du λa b c d e h f g=>f7t29 N a b c d e h f g K)
def f7t32 N a b (K:KT J):f8 N 32767 (rT a b) f7lE K =
 cp.Z32 N a b (λc=>K .ret (f5 c)):=by kernel_rfl
def f7t26 N c d e a b f g (K:KT J):=vQ (λk=>cp.Z27 N c d e a b f g k (λh=>K .ret (f5 h))) (f7t27 N c d e a b f g _) (cV λa b=>f7t32 N a b K)
def f7t24 N a b c d e f (K:KT J):=vQ (λk=>cp.Z25 N a b c d e f k) (f7t25 N a b c d e f _) (eA λa b c d g e f=>f7t26 N a b c d g e f K)
def f7t22 N a b c d e (K:KT J):=vQ (λk=>cp.Z23 N a b c d e k) (f7t23 N a b c d e _) (cB λa b f g h i=>f7t24 N a b f g h i K)
def f7t20 N a b c f d e (K:KT J):=vQ (λk=>cp.Z21 N a b c f d e k (λg=>K .ret (f5 g))) (f7t21 N a b c f d e _) (cn λa b c d e=>f7t22 N a b c d e K)
def f7t18 N a b e c d f g (K:KT J):=vQ (λk=>cp.Z19 N a b e c d f g k) (f7t19 N a b e c d f g _) (cB λa h b i c d=>f7t20 N a h b i c d K)
def f7t16 N a b c h d e f g (K:KT J):=vQ (λk=>cp.Z17 N a b c h d e f g k (λi=>K .ret (f5 i))) (f7t17 N a b c h d e f g _) (eA λa b c d e f g=>f7t18 N a b c d e f g K)
def f7t14 N e a b c d (K:KT J):=vQ (λk=>cp.Z15 N e a b c d k) (f7t15 N e a b c d _) (du λa b f g c d h i=>f7t16 N a b f g c d h i K)
def f7t12 N a b c f d e (K:KT J):=vQ (λk=>cp.Z13 N a b c f d e k (λg=>K .ret (f5 g))) (f7t13 N a b c f d e _) (cn λa b c d e=>f7t14 N a b c d e K)
def f7t10 N a b c d g e f (K:KT J):=vQ (λk=>cp.Z11 N a b c d g e f k (λh=>K .ret (f5 h))) (f7t11 N a b c d g e f _) (cB λa b c d e f=>f7t12 N a b c d e f K)
def f7t8 N a b c d e f (K:KT J):=vQ (λk=>cp.Z9 N a b c d e f k) (f7t9 N a b c d e f _) (eA λa b c d g e f=>f7t10 N a b c d g e f K)
def f7t6 N a b c d (K:KT J):=vQ (λk=>cp.Z7 N a b c d k) (f7t7 N a b c d _) (cB λa e b f c d=>f7t8 N a e b f c d K)
def f7t4 N a (K:KT J):=vQ (λk=>cp.Z5 N a k) (f7t5 N a _) (d7 λb c d e=>f7t6 N b c d e K)
def f7t2 N a (K:KT J):=vQ (λk=>cp.Z3 N a k (λb=>K .ret (f5 b))) (f7t3 N a _) (funext λa=>f7t4 N a K)
def f7t0 N a (K:KT J):=vQ (λk=>cp.Z1 N a k) (f7t1 N a _) (funext λa=>f7t2 N a K)
def f7ok(h:cp.Spec):aw Tryz.prog 7 e7 :=
 bA Tryz.func7 a8 f7GOk (λN X K=>f7t0 N X.1 K) (by kernel_rfl) λX hb hp=>by obtain⟨a,_⟩:=X;obtain⟨N,h⟩:=h a hb.1;exact⟨N,Eq.trans (by kernel_rfl) (h N (Nat.le_refl N))⟩
def e7ok:aw Tryz.prog 7 e7:=f7ok cp.ok
end Go.Fw
