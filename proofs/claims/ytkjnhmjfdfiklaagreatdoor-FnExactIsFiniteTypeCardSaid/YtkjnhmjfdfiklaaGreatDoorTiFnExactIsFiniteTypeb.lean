/- The ties: the program's text comes to the plain functions. Nothing is assumed. -/
import Derived.Test.YtkjnhmjfdfiklaaGreatDoorPuFnExactIsFiniteTypeb
import Derived.Test.YtkjnhmjfdfiklaaGreatDoorTiFnExactIsFiniteTypea
import Derived.Test.YtkjnhmjfdfiklaaGreatDoorChecked
import Derived.Test.YtkjnhmjfdfiklaaGreatDoorFza
noncomputable section
set_option linter.defProp false
set_option linter.unusedSectionVars false
set_option linter.unusedVariables false
set_option linter.unusedSimpArgs false
set_option maxRecDepth 100000
namespace Go.Fw
variable {ρ : Type}
open Go.Proofs
def f81sig:Sig:=⟨[⟨.pair (.int .i64) (.pair (.int .i64) (.sl 3 (.int .i64))),true,false⟩,⟨.sl 3 (.int .i64),false,false⟩],[⟨.pair (.int .i64) (.pair (.int .i64) (.sl 3 (.int .i64))),true,false⟩,⟨.bool,false,false⟩]⟩
def e81:z24:=⟨f81sig,none,λX=>((),((z03.g X.1 X.2.1).1,((z03.g X.1 X.2.1).2,())))⟩
def f81G:Gm:=z3m (z3m (z3m z1n 63 e63) 83 e83) 116 e116
def f81GOk:GOk Tryz.prog f81G:=(((GOk.nil).add e63ok (by kernel_rfl)).add e83ok (by kernel_rfl)).add e116ok (by kernel_rfl)
def f81lE:z00:=⟨[],[],[],[],[]⟩
def f81s0(a:MT)(b:LI):St:=z1k f81sig.ps (a,(b,()))
def f81s1(a:LI)(b d:Int)(e:LI)(f g:Int):St:=z16 [(1,.c (.sn 3 tI a none)),(2,xb 2),(4,xb 4)] [(2,(27,[yi b,yi d,.sn 3 tI e none])),(4,(27,[yi f,yi g,.nil]))] []
def f81l1:z00:=⟨[1,2,4],[2,4],[],[],[]⟩
def f81s2(a b:LI)(d e:Int)(f:LI)(g h i j:Int):St:=z16 [(1,.c (.sn 3 tI b none)),(2,xb 2),(4,xb 4),(6,xb 6)] [(2,(27,[yi d,yi e,.sn 3 tI f none])),(4,(27,[yi g,yi h,.nil])),(6,(27,[yi i,yi j,.own 20000386]))] [(20000386,(⟨3,.int .i64,a,true,false⟩:Row))]
def f81l2:z00:=⟨[1,2,4,6],[2,4,6],[],[],[(⟨true,6,2⟩,20000386)]⟩
def zd3(a b:LI)(d e f:Int)(g:LI)(h i j l:Int):St:=z16 [(1,.c (.sn 3 tI b none)),(2,xb 2),(4,xb 4),(6,xb 6),(7,xi d)] [(2,(27,[yi e,yi f,.sn 3 tI g none])),(4,(27,[yi h,yi i,.nil])),(6,(27,[yi j,yi l,.own 20000386]))] [(20000386,(⟨3,.int .i64,a,true,false⟩:Row))]
def zk3:z00:=⟨[1,2,4,6,7],[2,4,6],[],[],[(⟨true,6,2⟩,20000386)]⟩
def f81s4(a b:LI)(d e f g:Int)(h:LI)(i j l m:Int):St:=z16 [(1,.c (.sn 3 tI b none)),(2,xb 2),(4,xb 4),(6,xb 6),(7,xi d),(8,xi e)] [(2,(27,[yi f,yi g,.sn 3 tI h none])),(4,(27,[yi i,yi j,.nil])),(6,(27,[yi l,yi m,.own 20000386]))] [(20000386,(⟨3,.int .i64,a,true,false⟩:Row))]
def f81l4:z00:=⟨[1,2,4,6,7,8],[2,4,6],[],[],[(⟨true,6,2⟩,20000386)]⟩
def f81s5(a b:LI)(d e f g h:Int)(i:LI)(j l m o:Int):St:=z16 [(1,.c (.sn 3 tI b none)),(2,xb 2),(4,xb 4),(6,xb 6),(7,xi d),(8,xi e),(9,xi f)] [(2,(27,[yi g,yi h,.sn 3 tI i none])),(4,(27,[yi j,yi l,.nil])),(6,(27,[yi m,yi o,.own 20000386]))] [(20000386,(⟨3,.int .i64,a,true,false⟩:Row))]
def f81l5:z00:=⟨[1,2,4,6,7,8,9],[2,4,6],[],[],[(⟨true,6,2⟩,20000386)]⟩
def zps(a:LI)(b c d e:Int):St:=z16 [(4,xb 4),(6,xb 6)] [(4,(27,[yi b,yi c,.nil])),(6,(27,[yi d,yi e,.own 20000386]))] [(20000386,(⟨3,.int .i64,a,true,false⟩:Row))]
def f81l6:z00:=⟨[4,6],[4,6],[],[],[(⟨true,6,2⟩,20000386)]⟩
def f81s7(a:LI)(b:Bool)(c d:Int):St:=z16 [(4,xb 4),(5,xB b)] [(4,(27,[yi c,yi d,.own 20000258]))] [(20000258,(⟨3,.int .i64,a,true,false⟩:Row))]
def f81l7:z00:=⟨[4,5],[4],[⟨⟨true,4,2⟩,30000000,3,.int .i64,true⟩],[],[(⟨true,4,2⟩,20000258)]⟩
def f81B:Nat->Option z00:=z17 [(2,zk3),(1,zk3),(0,f81l6),(1000000,f81l7)]
abbrev zsj{ρ:Type}(N n:Nat)(σ:St)(l:z00)(K:KT ρ):Option ρ:=z0p f81G tab f81B N (z2o 99 (z1q Tryz.f81) n) .n σ (z14 (some l) K)
def f81t1 N b a (K:KT ρ):zsj N 2 (f81s0 b a) f81l1 K =
 z03.Z1 N b a (λa c d e f g=>K .nrm (f81s1 a c d e f g)):=by kernel_rfl
def f81t3 N c d e f a b (K:KT ρ):zsj N 5 (f81s1 c d e f a b) f81l1 K =
 z03.Z3 N c d e f a b (λc d e f a b=>K .nrm (f81s1 c d e f a b)) (λg h a b=>K .ret (f81s7 g h a b)):=by kernel_rfl
def f81t5 N a b c d e f (K:KT ρ):zsj N 11 (f81s1 a b c d e f) f81l2 K =
 z03.Z5 N a b c d e f (λg a b c d e f h i=>K .nrm (f81s2 g a b c d e f h i)):=by kernel_rfl
def f81t8 N a b c d e f g h i (K:KT ρ):zsj N 39 (f81s2 a b c d e f g h i) zk3 K =
 z03.Z8 N a b c d e f g h i (λa b j c d e f g h i=>K .nrm (zd3 a b j c d e f g h i)):=by kernel_rfl
def f81t12 N a f g h i j b c d e (K:KT ρ):zsj N 279 (zd3 a f g h i j b c d e) zk3 K =
 z03.Z12 N a f g h i j b c d e (λa f g h i j b c d e=>K .nrm (zd3 a f g h i j b c d e)) (λa b c d e=>K (.exit 0) (zps a b c d e)):=by kernel_rfl
def f81t16 N a b c d e f g h i j (K:KT ρ):zsj N 2199 (zd3 a b c d e f g h i j) f81l4 K =
 z03.Z16 N a b c d e f g h i j (λa b c l d e f g h i j=>K .nrm (f81s4 a b c l d e f g h i j)):=by kernel_rfl
def f81t18 N a b c d e f g h i j l (K:KT ρ):zsj N 5271 (f81s4 a b c d e f g h i j l) f81l4 K =
 z03.Z18 N a b c d e f g h i j l (λa b c d e f g h i j l=>K .nrm (f81s4 a b c d e f g h i j l)):=by kernel_rfl
def f81t20 N a b c d e f g h i j l (K:KT ρ):zsj N 11415 (f81s4 a b c d e f g h i j l) f81l5 K =
 z03.Z20 N a b c d e f g h i j l (λa b c d m e f g h i j l=>K .nrm (f81s5 a b c d m e f g h i j l)):=by kernel_rfl
def f81t23 N a b c l m d e f g h i j (K:KT ρ):zsj N 40087 (f81s5 a b c l m d e f g h i j) f81l5 K =
 z03.Z23 N a b c l m d e f g h i j (λa b c l m d e f g h i j=>K .nrm (f81s5 a b c l m d e f g h i j)) (λa b c d e f g h i j=>K (.exit 2) (zd3 a b c d e f g h i j)):=by kernel_rfl
def f81t22L N (K:KT ρ):=lp12 K (z03.Z22L N (λa b c d e f g h i j=>K (.exit 2) (zd3 a b c d e f g h i j))) (λa b c l m d e f g h i j k=>z03.Z23 N a b c l m d e f g h i j k (λa b c d e f g h i j=>K (.exit 2) (zd3 a b c d e f g h i j))) (λF a b c l m d e f g h i j=>f81t23 N a b c l m d e f g h i j _) (by kernel_rfl)
def f81t22 N a b c d e f g h i j l m (K:KT ρ):=vL (f81s5 a b c d e f g h i j l m) (f81t22L N (jK zk3 K) N a b c d e f g h i j l m) (by kernel_rfl)
def f81t21 N a b c l m d e f g h i j (K:KT ρ):=vB 2 zk3 K (z03.Z21 N a b c l m d e f g h i j (λa b c d e f g h i j=>K .nrm (zd3 a b c d e f g h i j))) (f81t22 N a b c l m d e f g h i j _) (by kernel_rfl)
def f81t19 N a b c d e f g h i j l (K:KT ρ):=vQ (λk=>z03.Z20 N a b c d e f g h i j l k) (f81t20 N a b c d e f g h i j l _) (fx12 λa b c d m e f g h i j l=>f81t21 N a b c d m e f g h i j l K)
def f81t17 N a b c d e f g h i j l (K:KT ρ):=vQ (λk=>z03.Z18 N a b c d e f g h i j l k) (f81t18 N a b c d e f g h i j l _) (zlx λa b c d e f g h i j l=>f81t19 N a b c d e f g h i j l K)
def f81t15 N a b c d e f g h i j (K:KT ρ):=vQ (λk=>z03.Z16 N a b c d e f g h i j k) (f81t16 N a b c d e f g h i j _) (zlx λa b c l d e f g h i j=>f81t17 N a b c l d e f g h i j K)
def f81t14 N a b c d e f g h i j (K:KT ρ):=vB 1 zk3 K (z03.Z14 N a b c d e f g h i j (λa b c d e f g h i j=>K .nrm (zd3 a b c d e f g h i j))) (f81t15 N a b c d e f g h i j _) (by kernel_rfl)
def f81t24 N a b c d e f g h i j (K:KT ρ):zsj N 919 (zd3 a b c d e f g h i j) zk3 K =
 z03.Z24 N a b c d e f g h i j (λa b c d e f g h i j=>K .nrm (zd3 a b c d e f g h i j)):=by kernel_rfl
def f81t13 N a b c d e f g h i j (K:KT ρ):=vQ (λk=>z03.Z14 N a b c d e f g h i j k) (f81t14 N a b c d e f g h i j _) (zf3 λa b c d e f g h i j=>f81t24 N a b c d e f g h i j K)
def f81t11 N a f g h i j b c d e (K:KT ρ):=vQ (λk=>z03.Z12 N a f g h i j b c d e k (λa b c d e=>K (.exit 0) (zps a b c d e))) (f81t12 N a f g h i j b c d e _) (zf3 λa f g h i j b c d e=>f81t13 N a f g h i j b c d e K)
def f81t10L N (K:KT ρ):=lp10 K (z03.Z10L N (λa b c d e=>K (.exit 0) (zps a b c d e))) (λa f g h i j b c d e k=>z03.Z11 N a f g h i j b c d e k (λa b c d e=>K (.exit 0) (zps a b c d e))) (λF a f g h i j b c d e=>f81t11 N a f g h i j b c d e _) (by kernel_rfl)
def f81t10 N a b c d e f g h i j (K:KT ρ):=vL (zd3 a b c d e f g h i j) (f81t10L N (jK f81l6 K) N a b c d e f g h i j) (by kernel_rfl)
def f81t9 N a f g h i j b c d e (K:KT ρ):=vB 0 f81l6 K (z03.Z9 N a f g h i j b c d e (λa b c d e=>K .nrm (zps a b c d e))) (f81t10 N a f g h i j b c d e _) (by kernel_rfl)
def f81t7 N a b c d e f g h i (K:KT ρ):=vQ (λk=>z03.Z8 N a b c d e f g h i k) (f81t8 N a b c d e f g h i _) (zf3 λa b j c d e f g h i=>f81t9 N a b j c d e f g h i K)
def f81t25 N c a b d e (K:KT ρ):zsj N 31 (zps c a b d e) f81lE K =
 z03.Z25 N c a b d e (λf g a b=>K .ret (f81s7 f g a b)):=by kernel_rfl
def f81t6 N a f g h i b c d e (K:KT ρ):=vQ (λk=>z03.Z7 N a f g h i b c d e k) (f81t7 N a f g h i b c d e _) (fx5 λa b c d e=>f81t25 N a b c d e K)
def f81t4 N a b c d e f (K:KT ρ):=vQ (λk=>z03.Z5 N a b c d e f k) (f81t5 N a b c d e f _) (fx9 λg a b c d e f h i=>f81t6 N g a b c d e f h i K)
def f81t2 N c d e f a b (K:KT ρ):=vQ (λk=>z03.Z3 N c d e f a b k (λg h a b=>K .ret (f81s7 g h a b))) (f81t3 N c d e f a b _) (fx6 λc d e f a b=>f81t4 N c d e f a b K)
def f81t0 N b a (K:KT ρ):=vQ (λk=>z03.Z1 N b a k) (f81t1 N b a _) (fx6 λa c d e f g=>f81t2 N a c d e f g K)
def f81ok(h:z03.Spec):z0a Tryz.prog 81 e81 :=
 okC Tryz.func81 z2q f81GOk (λN X K=>f81t0 N X.1 X.2.1 K) (by kernel_rfl) λX hb hp=>by
  obtain⟨a,b,_⟩:=X
  obtain⟨N,h⟩:=h a b hb.1 hb.2.1
  exact⟨N,Eq.trans (by kernel_rfl) (h N (Nat.le_refl N))⟩
def e81ok:z0a Tryz.prog 81 e81:=f81ok z03.ok
end Go.Fw
namespace Go.Fw
variable {ρ : Type}
open Go.Proofs
variable [DC]
def zt7:Sig:=⟨[⟨.int .i64,false,false⟩],[⟨.bool,false,false⟩]⟩
def e132:z24:=⟨zt7,none,λX=>((),((z2u.g X.1),()))⟩
def f132G:Gm:=z1n
def f132GOk:GOk Tryz.prog f132G:=GOk.nil
def f132lE:z00:=⟨[],[],[],[],[]⟩
def f132s0(a:Int):St:=z1k zt7.ps (a,())
def f132s1(a:Bool):St:=z16 [(2,xB a)] [] []
def f132l1:z00:=⟨[2],[],[],[],[]⟩
def f132B:Nat->Option z00:=z17 [(1000000,f132l1)]
abbrev f132j{ρ:Type}(N n:Nat)(σ:St)(l:z00)(K:KT ρ):Option ρ:=z0p f132G tab f132B N (z2o 99 (z1q Tryz.f132) n) .n σ (z14 (some l) K)
def f132t0 N a (K:KT ρ):f132j N 1 (f132s0 a) f132lE K =
 z2u.Z0 N a (λb=>K .ret (f132s1 b)):=by kernel_rfl
def f132ok(h:z2u.Spec):z0a Tryz.prog 132 e132 :=
 okC Tryz.func132 z2q f132GOk (λN X K=>f132t0 N X.1 K) (by kernel_rfl) λX hb hp=>by
  obtain⟨a,_⟩:=X
  obtain⟨N,h⟩:=h a
  exact⟨N,Eq.trans (by kernel_rfl) (h N (Nat.le_refl N))⟩
def e132ok:z0a Tryz.prog 132 e132:=f132ok z2u.ok
end Go.Fw
namespace Go.Fw
variable {ρ : Type}
open Go.Proofs
variable [DC]
def f95sig:Sig:=⟨[⟨.int .i64,false,false⟩,⟨.int .i64,false,false⟩],[⟨.int .i64,false,false⟩]⟩
def e95:z24:=⟨f95sig,none,λX=>((),((z29.g X.1 X.2.1),()))⟩
def f95G:Gm:=z3m z1n 132 e132
def f95GOk:GOk Tryz.prog f95G:=(GOk.nil).add e132ok (by kernel_rfl)
def f95lE:z00:=⟨[],[],[],[],[]⟩
def f95s0(a b:Int):St:=z1k f95sig.ps (a,(b,()))
def f95s1(a:Int):St:=z16 [(4,xi a)] [] []
def f95l1:z00:=⟨[4],[],[],[],[]⟩
def f95B:Nat->Option z00:=z17 [(1000000,f95l1)]
abbrev f95j{ρ:Type}(N n:Nat)(σ:St)(l:z00)(K:KT ρ):Option ρ:=z0p f95G tab f95B N (z2o 99 (z1q Tryz.f95) n) .n σ (z14 (some l) K)
def f95t0 N a b (K:KT ρ):f95j N 1 (f95s0 a b) f95lE K =
 z29.Z0 N a b (λc=>K .ret (f95s1 c)):=by kernel_rfl
def f95ok(h:z29.Spec):z0a Tryz.prog 95 e95 :=
 okC Tryz.func95 z2q f95GOk (λN X K=>f95t0 N X.1 X.2.1 K) (by kernel_rfl) λX hb hp=>by
  obtain⟨a,b,_⟩:=X
  obtain⟨N,h⟩:=h a b
  exact⟨N,Eq.trans (by kernel_rfl) (h N (Nat.le_refl N))⟩
def e95ok:z0a Tryz.prog 95 e95:=f95ok z29.ok
end Go.Fw
namespace Go.Fw
variable {ρ : Type}
open Go.Proofs
variable [DC]
def f51sig:Sig:=⟨[⟨.sl 3 (.int .i64),false,false⟩,⟨.sl 3 (.int .i64),false,false⟩],[⟨.int .i64,false,false⟩]⟩
def e51:z24:=⟨f51sig,none,λX=>((),((z0j.g X.1 X.2.1),()))⟩
def f51G:Gm:=z3m z1n 95 e95
def f51GOk:GOk Tryz.prog f51G:=(GOk.nil).add e95ok (by kernel_rfl)
def f51lE:z00:=⟨[],[],[],[],[]⟩
def f51s0(a b:LI):St:=z1k f51sig.ps (a,(b,()))
def zm1(a b:LI):St:=z16 [(0,.c (.sn 3 tI a none)),(1,.c (.sn 3 tI b none))] [] []
def f51l1:z00:=⟨[0,1],[],[],[],[]⟩
def f51s2(a b d:LI)(e f:Int):St:=z16 [(0,.c (.sn 3 tI a none)),(1,.c (.sn 3 tI b none)),(9,.c (.sn 3 tI d none)),(10,xi e),(11,xi f)] [] []
def f51l2:z00:=⟨[0,1,9,10,11],[],[],[],[]⟩
def zpx(a:Int):St:=z16 [(4,xi a)] [] []
def f51l3:z00:=⟨[4],[],[],[],[]⟩
def f51B:Nat->Option z00:=z17 [(0,f51l1),(1000000,f51l3)]
abbrev f51j{ρ:Type}(N n:Nat)(σ:St)(l:z00)(K:KT ρ):Option ρ:=z0p f51G tab f51B N (z2o 99 (z1q Tryz.f51) n) .n σ (z14 (some l) K)
def f51t1 N a b (K:KT ρ):f51j N 2 (f51s0 a b) f51l1 K =
 z0j.Z1 N a b (λa b=>K .nrm (zm1 a b)):=by kernel_rfl
def f51t4 N a b (K:KT ρ):f51j N 9 (zm1 a b) f51l2 K =
 z0j.Z4 N a b (λa b c d e=>K .nrm (f51s2 a b c d e)):=by kernel_rfl
def f51t7 N a b c d e (K:KT ρ):f51j N 37 (f51s2 a b c d e) f51l2 K =
 z0j.Z7 N a b c d e (λa b c d e=>K .nrm (f51s2 a b c d e)) (λa b=>K (.exit 0) (zm1 a b)) (λf=>K .ret (zpx f)):=by kernel_rfl
def f51t6L N (K:KT ρ):=lp5 K (z0j.Z6L N (λa b=>K (.exit 0) (zm1 a b)) (λc=>K .ret (zpx c))) (λa b d e f k=>z0j.Z7 N a b d e f k (λa b=>K (.exit 0) (zm1 a b)) (λc=>K .ret (zpx c))) (λF a b d e f=>f51t7 N a b d e f _) (by kernel_rfl)
def f51t6 N a b c d e (K:KT ρ):=vL (f51s2 a b c d e) (f51t6L N (jK f51l1 K) N a b c d e) (by kernel_rfl)
def f51t5 N a b c d e (K:KT ρ):=vB 0 f51l1 K (z0j.Z5 N a b c d e (λa b=>K .nrm (zm1 a b)) (λf=>K .ret (zpx f))) (f51t6 N a b c d e _) (by kernel_rfl)
def f51t3 N a b (K:KT ρ):=vQ (λk=>z0j.Z4 N a b k) (f51t4 N a b _) (fx5 λa b c d e=>f51t5 N a b c d e K)
def f51t8 N a b (K:KT ρ):f51j N 7 (zm1 a b) f51lE K =
 z0j.Z8 N a b (λc=>K .ret (zpx c)):=by kernel_rfl
def f51t2 N a b (K:KT ρ):=vQ (λk=>z0j.Z3 N a b k (λc=>K .ret (zpx c))) (f51t3 N a b _) (fx2 λa b=>f51t8 N a b K)
def f51t0 N a b (K:KT ρ):=vQ (λk=>z0j.Z1 N a b k) (f51t1 N a b _) (fx2 λa b=>f51t2 N a b K)
def f51ok(h:z0j.Spec):z0a Tryz.prog 51 e51 :=
 okC Tryz.func51 z2q f51GOk (λN X K=>f51t0 N X.1 X.2.1 K) (by kernel_rfl) λX hb hp=>by
  obtain⟨a,b,_⟩:=X
  obtain⟨N,h⟩:=h a b hb.1 hb.2.1
  exact⟨N,Eq.trans (by kernel_rfl) (h N (Nat.le_refl N))⟩
def e51ok:z0a Tryz.prog 51 e51:=f51ok z0j.ok
end Go.Fw
namespace Go.Fw
variable {ρ : Type}
open Go.Proofs
def f34sig:Sig:=⟨[⟨.pair (.int .i64) (.pair (.int .i64) (.sl 3 (.int .i64))),true,false⟩],[⟨.pair (.int .i64) (.pair (.int .i64) (.sl 3 (.int .i64))),true,false⟩,⟨.bool,false,false⟩]⟩
def e34:z24:=⟨f34sig,none,λX=>((),((z04.g X.1).1,((z04.g X.1).2,())))⟩
def f34G:Gm:=z3m (z3m (z3m (z3m z1n 51 e51) 63 e63) 80 e80) 81 e81
def f34GOk:GOk Tryz.prog f34G:=((((GOk.nil).add e51ok (by kernel_rfl)).add e63ok (by kernel_rfl)).add e80ok (by kernel_rfl)).add e81ok (by kernel_rfl)
def f34lE:z00:=⟨[],[],[],[],[]⟩
def f34s0(a:MT):St:=z1k f34sig.ps (a,())
def f34s1(a b:Int)(c:LI)(d e:Int):St:=z16 [(1,xb 1),(2,xb 2)] [(1,(27,[yi a,yi b,.sn 3 tI c none])),(2,(27,[yi d,yi e,.nil]))] []
def f34l1:z00:=⟨[1,2],[1,2],[],[],[]⟩
def f34s2(a b:Int)(c:LI)(d e f g:Int)(h:LI):St:=z16 [(1,xb 1),(2,xb 2),(4,xb 4)] [(1,(27,[yi a,yi b,.sn 3 tI c none])),(2,(27,[yi d,yi e,.nil])),(4,(27,[yi f,yi g,.sn 3 tI h none]))] []
def f34l2:z00:=⟨[1,2,4],[1,2,4],[],[],[]⟩
def f34s3(a:LL)(b c d e:Int)(f:LI)(g h i j:Int)(l:LI):St:=z16 [(1,xb 1),(2,xb 2),(4,xb 4),(23,xo 1001472),(24,xi b),(25,xi c)] [(1,(27,[yi d,yi e,.sn 3 tI f none])),(2,(27,[yi g,yi h,.nil])),(4,(27,[yi i,yi j,.sn 3 tI l none]))] [(1001472,(⟨22,.sl 3 tI,a,true,false⟩:Row))]
def f34l3:z00:=⟨[1,2,4,23,24,25],[1,2,4],[],[],[(⟨false,23,0⟩,1001472)]⟩
def f34s4(a:LL)(b:LI)(c d e f:Int)(g:LI)(h i j l:Int):St:=z16 [(1,xb 1),(2,xb 2),(4,xb 4),(23,xo 1001472),(24,xi c),(25,xi d)] [(1,(27,[yi e,yi f,.sn 3 tI g none])),(2,(27,[yi h,yi i,.nil])),(4,(27,[yi j,yi l,.own 20000258]))] [(1001472,(⟨22,.sl 3 tI,a,true,false⟩:Row)),(20000258,(⟨3,.int .i64,b,true,false⟩:Row))]
def f34l4:z00:=⟨[1,2,4,23,24,25],[1,2,4],[],[],[(⟨false,23,0⟩,1001472),(⟨true,4,2⟩,20000258)]⟩
def zm4(a:LI)(b c d e:Int):St:=z16 [(2,xb 2),(4,xb 4)] [(2,(27,[yi b,yi c,.nil])),(4,(27,[yi d,yi e,.own 20000258]))] [(20000258,(⟨3,.int .i64,a,true,false⟩:Row))]
def f34l5:z00:=⟨[2,4],[2,4],[],[],[(⟨true,4,2⟩,20000258)]⟩
def f34s6(a:LI)(b:Bool)(c d:Int):St:=z16 [(2,xb 2),(3,xB b)] [(2,(27,[yi c,yi d,.own 20000130]))] [(20000130,(⟨3,.int .i64,a,true,false⟩:Row))]
def f34l6:z00:=⟨[2,3],[2],[⟨⟨true,2,2⟩,30000000,3,.int .i64,true⟩],[],[(⟨true,2,2⟩,20000130)]⟩
def f34B:Nat->Option z00:=z17 [(0,f34l5),(1000000,f34l6)]
abbrev f34j{ρ:Type}(N n:Nat)(σ:St)(l:z00)(K:KT ρ):Option ρ:=z0p f34G tab f34B N (z2o 99 (z1q Tryz.f34) n) .n σ (z14 (some l) K)
def f34t1 N a (K:KT ρ):f34j N 2 (f34s0 a) f34l1 K =
 z04.Z1 N a (λb c d e f=>K .nrm (f34s1 b c d e f)):=by kernel_rfl
def f34t3 N c d e a b (K:KT ρ):f34j N 5 (f34s1 c d e a b) f34l1 K =
 z04.Z3 N c d e a b (λc d e a b=>K .nrm (f34s1 c d e a b)) (λf g a b=>K .ret (f34s6 f g a b)):=by kernel_rfl
def f34t5 N a b c d e (K:KT ρ):f34j N 11 (f34s1 a b c d e) f34l2 K =
 z04.Z5 N a b c d e (λa b c d e f g h=>K .nrm (f34s2 a b c d e f g h)):=by kernel_rfl
def f34t8 N a b c d e f g h (K:KT ρ):f34j N 39 (f34s2 a b c d e f g h) f34l3 K =
 z04.Z8 N a b c d e f g h (λi j l a b c d e f g h=>K .nrm (f34s3 i j l a b c d e f g h)):=by kernel_rfl
def f34t11 N f a g h i j l b c d e (K:KT ρ):f34j N 151 (f34s4 f a g h i j l b c d e) f34l4 K =
 z04.Z11 N f a g h i j l b c d e (λf a g h i j l b c d e=>K .nrm (f34s4 f a g h i j l b c d e)) (λa b c d e=>K (.exit 0) (zm4 a b c d e)):=by kernel_rfl
def f34t12 N f g h i j l a b c d e (K:KT ρ):f34j N 151 (f34s3 f g h i j l a b c d e) f34l4 K =
 z04.Z12 N f g h i j l a b c d e (λf e g h i j l a b c d=>K .nrm (f34s4 f e g h i j l a b c d)) (λe a b c d=>K (.exit 0) (zm4 e a b c d)):=by kernel_rfl
def f34t10L N (K:KT ρ):=lp11 K (z04.Z10L N (λa b c d e=>K (.exit 0) (zm4 a b c d e))) (λf a g h i j l b c d e k=>z04.Z11 N f a g h i j l b c d e k (λa b c d e=>K (.exit 0) (zm4 a b c d e))) (λF f a g h i j l b c d e=>f34t11 N f a g h i j l b c d e _) (by kernel_rfl)
def f34t10 N f g h i j l a b c d e (K:KT ρ):=vP (f34s3 f g h i j l a b c d e) f34l3 (λk=>z04.Z12 N f g h i j l a b c d e k (λe a b c d=>K (.exit 0) (zm4 e a b c d))) (f34t12 N f g h i j l a b c d e _) (zlx λf e g h i j l a b c d=>f34t10L N (jK f34l5 K) N f e g h i j l a b c d) (by kernel_rfl)
def f34t9 N f g h i j l a b c d e (K:KT ρ):=vB 0 f34l5 K (z04.Z9 N f g h i j l a b c d e (λe a b c d=>K .nrm (zm4 e a b c d))) (f34t10 N f g h i j l a b c d e _) (by kernel_rfl)
def f34t7 N a b c d e f g h (K:KT ρ):=vQ (λk=>z04.Z8 N a b c d e f g h k) (f34t8 N a b c d e f g h _) (zlx λi j l a b c d e f g h=>f34t9 N i j l a b c d e f g h K)
def f34t13 N c a b d e (K:KT ρ):f34j N 31 (zm4 c a b d e) f34lE K =
 z04.Z13 N c a b d e (λf g a b=>K .ret (f34s6 f g a b)):=by kernel_rfl
def f34t6 N f g h a b c d e (K:KT ρ):=vQ (λk=>z04.Z7 N f g h a b c d e k) (f34t7 N f g h a b c d e _) (fx5 λe a b c d=>f34t13 N e a b c d K)
def f34t4 N a b c d e (K:KT ρ):=vQ (λk=>z04.Z5 N a b c d e k) (f34t5 N a b c d e _) (fx8 λa b c d e f g h=>f34t6 N a b c d e f g h K)
def f34t2 N c d e a b (K:KT ρ):=vQ (λk=>z04.Z3 N c d e a b k (λf g a b=>K .ret (f34s6 f g a b))) (f34t3 N c d e a b _) (fx5 λc d e a b=>f34t4 N c d e a b K)
def f34t0 N a (K:KT ρ):=vQ (λk=>z04.Z1 N a k) (f34t1 N a _) (fx5 λb c d e f=>f34t2 N b c d e f K)
def f34ok(h:z04.Spec):z0a Tryz.prog 34 e34 :=
 okC Tryz.func34 z2q f34GOk (λN X K=>f34t0 N X.1 K) (by kernel_rfl) λX hb hp=>by
  obtain⟨a,_⟩:=X
  obtain⟨N,h⟩:=h a hb.1
  exact⟨N,Eq.trans (by kernel_rfl) (h N (Nat.le_refl N))⟩
def e34ok:z0a Tryz.prog 34 e34:=f34ok z04.ok
end Go.Fw
namespace Go.Fw
variable {ρ : Type}
open Go.Proofs
def f121sig:Sig:=⟨[⟨.int .i64,false,false⟩],[⟨.str,false,false⟩]⟩
def e121:z24:=⟨f121sig,(some λX=>strconv_Itoa.P X.1),λX=>((),((strconv_Itoa.g X.1),()))⟩
def zq3:Go.Shelf.Ren:=⟨λ| 171=>121 | 243=>159 | 246=>183 | 283=>195 | 284=>196 | 285=>197 | 286=>198 | 129=>131 | 317=>203 | 318=>204 | 319=>205 | 320=>206 | 337=>207 | 338=>208 | n=>n,λ| 3=>3 | 9=>9 | 2=>2 | 4=>4 | 171=>184 | 0=>0 | 53=>132 | 37=>37 | 5=>5 | 173=>186 | 212=>199 | 51=>130 | 20=>20 | 213=>200 | 46=>96 | 232=>201 | 233=>202 | n=>n,λ| 17=>5 | 18=>6 | 19=>7 | n=>n⟩
def f121lay:LaysM.n171 Tryz.prog zq3:={ mixed:=(by kernel_rfl),f129:=Tryz.func131.trans (congrArg some (by kernel_rfl)),f171:=Tryz.func121.trans (congrArg some (by kernel_rfl)),f243:=Tryz.func159.trans (congrArg some (by kernel_rfl)),f246:=Tryz.func183.trans (congrArg some (by kernel_rfl)),f283:=Tryz.func195.trans (congrArg some (by kernel_rfl)),f284:=Tryz.func196.trans (congrArg some (by kernel_rfl)),f285:=Tryz.func197.trans (congrArg some (by kernel_rfl)),f286:=Tryz.func198.trans (congrArg some (by kernel_rfl)),f317:=Tryz.func203.trans (congrArg some (by kernel_rfl)),f318:=Tryz.func204.trans (congrArg some (by kernel_rfl)),f319:=Tryz.func205.trans (congrArg some (by kernel_rfl)),f320:=Tryz.func206.trans (congrArg some (by kernel_rfl)),f337:=Tryz.func207.trans (congrArg some (by kernel_rfl)),f338:=Tryz.func208.trans (congrArg some (by kernel_rfl)),t0:=Tryz.underlying0,a0:=Tryz.isAgg0,z0:=Tryz.sizeOf0,v0:=Tryz.zeroValue0,t2:=Tryz.underlying2,a2:=Tryz.isAgg2,z2:=Tryz.sizeOf2,v2:=Tryz.zeroValue2,t3:=Tryz.underlying3,a3:=Tryz.isAgg3,z3:=Tryz.sizeOf3,v3:=Tryz.zeroValue3,t4:=Tryz.underlying4,a4:=Tryz.isAgg4,z4:=Tryz.sizeOf4,v4:=Tryz.zeroValue4,t5:=Tryz.underlying5,a5:=Tryz.isAgg5,z5:=Tryz.sizeOf5,v5:=Tryz.zeroValue5,t9:=Tryz.underlying9,a9:=Tryz.isAgg9,z9:=Tryz.sizeOf9,v9:=Tryz.zeroValue9,t20:=Tryz.underlying20,a20:=Tryz.isAgg20,z20:=Tryz.sizeOf20,v20:=Tryz.zeroValue20,t37:=Tryz.underlying37,a37:=Tryz.isAgg37,z37:=Tryz.sizeOf37,v37:=Tryz.zeroValue37,t46:=Tryz.underlying96,a46:=Tryz.isAgg96,z46:=Tryz.sizeOf96,v46:=Tryz.zeroValue96,t51:=Tryz.underlying130,a51:=Tryz.isAgg130,z51:=Tryz.sizeOf130,v51:=Tryz.zeroValue130,t53:=Tryz.underlying132,a53:=Tryz.isAgg132,z53:=Tryz.sizeOf132,v53:=Tryz.zeroValue132,t171:=Tryz.underlying184,a171:=Tryz.isAgg184,z171:=Tryz.sizeOf184,v171:=Tryz.zeroValue184,t173:=Tryz.underlying186,a173:=Tryz.isAgg186,z173:=Tryz.sizeOf186,v173:=Tryz.zeroValue186,t212:=Tryz.underlying199,a212:=Tryz.isAgg199,z212:=Tryz.sizeOf199,v212:=Tryz.zeroValue199,t213:=Tryz.underlying200,a213:=Tryz.isAgg200,z213:=Tryz.sizeOf200,t232:=Tryz.underlying201,a232:=Tryz.isAgg201,z232:=Tryz.sizeOf201,v232:=Tryz.zeroValue201,t233:=Tryz.underlying202,a233:=Tryz.isAgg202,z233:=Tryz.sizeOf202,v233:=Tryz.zeroValue202,g17:=(by kernel_rfl),g18:=(by kernel_rfl),g19:=(by kernel_rfl),i0:=(by kernel_rfl),i2:=(by kernel_rfl),i3:=(by kernel_rfl),i4:=(by kernel_rfl),i5:=(by kernel_rfl),i9:=(by kernel_rfl),i20:=(by kernel_rfl),i37:=(by kernel_rfl),i46:=(by kernel_rfl),i51:=(by kernel_rfl),i53:=(by kernel_rfl),i171:=(by kernel_rfl),i173:=(by kernel_rfl),i212:=(by kernel_rfl),i232:=(by kernel_rfl),i233:=(by kernel_rfl),m17:=(by kernel_rfl),m18:=(by kernel_rfl),m19:=(by kernel_rfl) }
def f121ok(_:True):z0a Tryz.prog 121 e121:=itoa_ok tab0 f121lay
def e121ok:z0a Tryz.prog 121 e121:=f121ok strconv_Itoa.ok
end Go.Fw
namespace Go.Fw
variable {ρ : Type}
open Go.Proofs
def f90sig:Sig:=⟨[⟨.int .i64,false,false⟩],[⟨.str,false,false⟩]⟩
def e90:z24:=⟨f90sig,(some λX=>z23.P X.1),λX=>((),((z23.g X.1),()))⟩
def f90G:Gm:=z3m z1n 121 e121
def f90GOk:GOk Tryz.prog f90G:=(GOk.nil).add e121ok (by kernel_rfl)
def f90lE:z00:=⟨[],[],[],[],[]⟩
def f90s0(a:Int):St:=z1k f90sig.ps (a,())
def f90s1(a:ByteArray):St:=z16 [(2,.c (.str a))] [] []
def f90l1:z00:=⟨[2],[],[],[],[]⟩
def f90B:Nat->Option z00:=z17 [(1000000,f90l1)]
abbrev f90j{ρ:Type}(N n:Nat)(σ:St)(l:z00)(K:KT ρ):Option ρ:=z0p f90G tab f90B N (z2o 99 (z1q Tryz.f90) n) .n σ (z14 (some l) K)
def f90t0 N a (K:KT ρ):f90j N 1 (f90s0 a) f90lE K =
 z23.Z0 N a (λb=>K .ret (f90s1 b)):=by kernel_rfl
def f90ok(h:z23.Spec):z0a Tryz.prog 90 e90 :=
 okC Tryz.func90 z2q f90GOk (λN X K=>f90t0 N X.1 K) (by kernel_rfl) λX hb hp=>by
  obtain⟨a,_⟩:=X
  obtain⟨N,h⟩:=h a hp
  exact⟨N,Eq.trans (by kernel_rfl) (h N (Nat.le_refl N))⟩
def e90ok:z0a Tryz.prog 90 e90:=f90ok z23.ok
end Go.Fw
namespace Go.Fw
variable {ρ : Type}
open Go.Proofs
def f79sig:Sig:=⟨[⟨.sl 9 (.str),false,false⟩,⟨.str,false,false⟩],[⟨.str,false,false⟩]⟩
def e79:z24:=⟨f79sig,(some λX=>strings_Join.P X.1 X.2.1),λX=>((),((strings_Join.g X.1 X.2.1),()))⟩
def zk4:Go.Shelf.Ren:=⟨λ| 156=>79 | 165=>112 | 166=>113 | 169=>114 | 240=>153 | 241=>154 | 276=>179 | 277=>180 | n=>n,λ| 31=>70 | 9=>9 | 3=>3 | 4=>4 | 0=>0 | 20=>20 | 72=>114 | 76=>104 | 70=>112 | 37=>37 | 75=>103 | 127=>147 | 164=>169 | 5=>5 | 80=>116 | n=>n,λn=>n⟩
def f79lay:Lays.n156 Tryz.prog zk4:={ mixed:=(by kernel_rfl),f156:=Tryz.func79.trans (congrArg some (by kernel_rfl)),f165:=Tryz.func112.trans (congrArg some (by kernel_rfl)),f166:=Tryz.func113.trans (congrArg some (by kernel_rfl)),f169:=Tryz.func114.trans (congrArg some (by kernel_rfl)),f240:=Tryz.func153.trans (congrArg some (by kernel_rfl)),f241:=Tryz.func154.trans (congrArg some (by kernel_rfl)),f276:=Tryz.func179.trans (congrArg some (by kernel_rfl)),f277:=Tryz.func180.trans (congrArg some (by kernel_rfl)),t0:=Tryz.underlying0,a0:=Tryz.isAgg0,z0:=Tryz.sizeOf0,v0:=Tryz.zeroValue0,t3:=Tryz.underlying3,a3:=Tryz.isAgg3,z3:=Tryz.sizeOf3,v3:=Tryz.zeroValue3,t4:=Tryz.underlying4,a4:=Tryz.isAgg4,z4:=Tryz.sizeOf4,v4:=Tryz.zeroValue4,t9:=Tryz.underlying9,a9:=Tryz.isAgg9,z9:=Tryz.sizeOf9,v9:=Tryz.zeroValue9,t20:=Tryz.underlying20,a20:=Tryz.isAgg20,z20:=Tryz.sizeOf20,v20:=Tryz.zeroValue20,t31:=Tryz.underlying70,a31:=Tryz.isAgg70,z31:=Tryz.sizeOf70,v31:=Tryz.zeroValue70,t37:=Tryz.underlying37,a37:=Tryz.isAgg37,z37:=Tryz.sizeOf37,v37:=Tryz.zeroValue37,t70:=Tryz.underlying112,a70:=Tryz.isAgg112,z70:=Tryz.sizeOf112,v70:=Tryz.zeroValue112,t72:=Tryz.underlying114,a72:=Tryz.isAgg114,z72:=Tryz.sizeOf114,v72:=Tryz.zeroValue114,t75:=Tryz.underlying103,a75:=Tryz.isAgg103,z75:=Tryz.sizeOf103,v75:=Tryz.zeroValue103,t76:=Tryz.underlying104,a76:=Tryz.isAgg104,z76:=Tryz.sizeOf104,v76:=Tryz.zeroValue104,t127:=Tryz.underlying147,a127:=Tryz.isAgg147,z127:=Tryz.sizeOf147,v127:=Tryz.zeroValue147,t164:=Tryz.underlying169,a164:=Tryz.isAgg169,z164:=Tryz.sizeOf169,v164:=Tryz.zeroValue169 }
def f79layX:Builder.Extra Tryz.prog zk4:={ sizeBuilder:=(by kernel_rfl),liesBuilder:=(by kernel_rfl),t5:=Tryz.underlying5,a5:=Tryz.isAgg5,z5:=Tryz.sizeOf5,v5:=Tryz.zeroValue5,infoByte:=(by kernel_rfl),cellsByte:=(by kernel_rfl),sizeByte:=(by kernel_rfl),neB5:=(by decide) }
def f79ok(_:True):z0a Tryz.prog 79 e79:=join_ok f79lay f79layX
def e79ok:z0a Tryz.prog 79 e79:=f79ok strings_Join.ok
end Go.Fw
namespace Go.Fw
variable {ρ : Type}
open Go.Proofs
def f47sig:Sig:=⟨[⟨.sl 3 (.int .i64),false,false⟩],[⟨.str,false,false⟩]⟩
def e47:z24:=⟨f47sig,(some λX=>z0r.P X.1),λX=>((),((z0r.g X.1),()))⟩
def f47G:Gm:=z3m (z3m z1n 79 e79) 90 e90
def f47GOk:GOk Tryz.prog f47G:=((GOk.nil).add e79ok (by kernel_rfl)).add e90ok (by kernel_rfl)
def f47lE:z00:=⟨[],[],[],[],[]⟩
def f47s0(a:LI):St:=z1k f47sig.ps (a,())
def f47s1(a:LI):St:=z16 [(0,.c (.sn 3 tI a none))] [] []
def f47l1:z00:=⟨[0],[],[],[],[]⟩
def f47s2(a:LI):St:=z16 [(0,.c (.sn 3 tI a none)),(3,.c (.nil))] [] []
def f47l2:z00:=⟨[0,3],[],[],[],[]⟩
def f47s3(a:LI)(b d:Int):St:=z16 [(3,.c (.nil)),(6,.c (.sn 3 tI a none)),(7,xi b),(8,xi d)] [] []
def f47l3:z00:=⟨[3,6,7,8],[],[],[],[]⟩
def f47s4(a:List ByteArray)(b:LI)(d e:Int):St:=z16 [(3,xo 1000192),(6,.c (.sn 3 tI b none)),(7,xi d),(8,xi e)] [] [(1000192,(⟨9,.str,a,true,false⟩:Row))]
def f47l4:z00:=⟨[3,6,7,8],[],[⟨⟨false,3,0⟩,30000000,9,.str,true⟩],[],[(⟨false,3,0⟩,1000192)]⟩
def zss(a:List ByteArray):St:=z16 [(3,xo 1000192)] [] [(1000192,(⟨9,.str,a,true,false⟩:Row))]
def f47l5:z00:=⟨[3],[],[],[],[(⟨false,3,0⟩,1000192)]⟩
def f47s6(a:ByteArray):St:=z16 [(2,.c (.str a))] [] []
def f47l6:z00:=⟨[2],[],[],[],[]⟩
def f47B:Nat->Option z00:=z17 [(0,f47l5),(1000000,f47l6)]
abbrev f47j{ρ:Type}(N n:Nat)(σ:St)(l:z00)(K:KT ρ):Option ρ:=z0p f47G tab f47B N (z2o 99 (z1q Tryz.f47) n) .n σ (z14 (some l) K)
def f47t1 N a (K:KT ρ):f47j N 2 (f47s0 a) f47l1 K =
 z0r.Z1 N a (λa=>K .nrm (f47s1 a)):=by kernel_rfl
def f47t3 N a (K:KT ρ):f47j N 5 (f47s1 a) f47l2 K =
 z0r.Z3 N a (λa=>K .nrm (f47s2 a)):=by kernel_rfl
def f47t6 N a (K:KT ρ):f47j N 19 (f47s2 a) f47l3 K =
 z0r.Z6 N a (λb c d=>K .nrm (f47s3 b c d)):=by kernel_rfl
def f47t9 N a b c d (K:KT ρ):f47j N 75 (f47s4 a b c d) f47l4 K =
 z0r.Z9 N a b c d (λa b c d=>K .nrm (f47s4 a b c d)) (λa=>K (.exit 0) (zss a)):=by kernel_rfl
def f47t8L N (K:KT ρ):=lp4 K (z0r.Z8L N (λa=>K (.exit 0) (zss a))) (λa b c d k=>z0r.Z9 N a b c d k (λa=>K (.exit 0) (zss a))) (λF a b c d=>f47t9 N a b c d _) (by kernel_rfl)
def f47t8 N a b c (K:KT ρ):=vL (f47s3 a b c) (f47t8L N (jK f47l5 K) N ([]:List ByteArray) a b c) (by kernel_rfl)
def f47t7 N a b c (K:KT ρ):=vB 0 f47l5 K (z0r.Z7 N a b c (λd=>K .nrm (zss d))) (f47t8 N a b c _) (by kernel_rfl)
def f47t5 N a (K:KT ρ):=vQ (λk=>z0r.Z6 N a k) (f47t6 N a _) (fx3 λb c d=>f47t7 N b c d K)
def f47t10 N a (K:KT ρ):f47j N 15 (zss a) f47lE K =
 z0r.Z10 N a (λb=>K .ret (f47s6 b)):=by kernel_rfl
def f47t4 N a (K:KT ρ):=vQ (λk=>z0r.Z5 N a k) (f47t5 N a _) (funext λb=>f47t10 N b K)
def f47t2 N a (K:KT ρ):=vQ (λk=>z0r.Z3 N a k) (f47t3 N a _) (funext λa=>f47t4 N a K)
def f47t0 N a (K:KT ρ):=vQ (λk=>z0r.Z1 N a k) (f47t1 N a _) (funext λa=>f47t2 N a K)
def f47ok(h:z0r.Spec):z0a Tryz.prog 47 e47 :=
 okC Tryz.func47 z2q f47GOk (λN X K=>f47t0 N X.1 K) (by kernel_rfl) λX hb hp=>by
  obtain⟨a,_⟩:=X
  obtain⟨N,h⟩:=h a hb.1 hp
  exact⟨N,Eq.trans (by kernel_rfl) (h N (Nat.le_refl N))⟩
def e47ok:z0a Tryz.prog 47 e47:=f47ok z0r.ok
end Go.Fw
namespace Go.Fw
variable {ρ : Type}
open Go.Proofs
def f92sig:Sig:=⟨[⟨.pair (.int .i64) (.pair (.int .i64) (.sl 3 (.int .i64))),true,false⟩,⟨.int .i64,false,false⟩],[⟨.pair (.int .i64) (.pair (.int .i64) (.sl 3 (.int .i64))),true,false⟩]⟩
def e92:z24:=⟨f92sig,(some λX=>z0e.P X.1 X.2.1),λX=>((),((z0e.g X.1 X.2.1),()))⟩
def f92G:Gm:=z3m (z3m z1n 69 e69) 83 e83
def f92GOk:GOk Tryz.prog f92G:=((GOk.nil).add e69ok (by kernel_rfl)).add e83ok (by kernel_rfl)
def f92lE:z00:=⟨[],[],[],[],[]⟩
def f92s0(a:MT)(b:Int):St:=z1k f92sig.ps (a,(b,()))
def f92s1(a b c:Int)(d:LI)(e f:Int):St:=z16 [(1,xi a),(2,xb 2),(4,xb 4)] [(2,(27,[yi b,yi c,.sn 3 tI d none])),(4,(27,[yi e,yi f,.nil]))] []
def f92l1:z00:=⟨[1,2,4],[2,4],[],[],[]⟩
def f92s2(a:LI)(b c d:Int)(e:LI)(f g h i:Int):St:=z16 [(1,xi b),(2,xb 2),(4,xb 4),(5,xb 5)] [(2,(27,[yi c,yi d,.sn 3 tI e none])),(4,(27,[yi f,yi g,.nil])),(5,(27,[yi h,yi i,.own 20000322]))] [(20000322,(⟨3,.int .i64,a,true,false⟩:Row))]
def f92l2:z00:=⟨[1,2,4,5],[2,4,5],[],[],[(⟨true,5,2⟩,20000322)]⟩
def zbx(a:LI)(b c d e:Int)(f:LI)(g h i j:Int):St:=z16 [(1,xi b),(2,xb 2),(4,xb 4),(5,xb 5),(6,xi c)] [(2,(27,[yi d,yi e,.sn 3 tI f none])),(4,(27,[yi g,yi h,.nil])),(5,(27,[yi i,yi j,.own 20000322]))] [(20000322,(⟨3,.int .i64,a,true,false⟩:Row))]
def zjy:z00:=⟨[1,2,4,5,6],[2,4,5],[],[],[(⟨true,5,2⟩,20000322)]⟩
def zf4(a:LI)(b c d e f:Int)(g:LI)(h i j l:Int):St:=z16 [(1,xi b),(2,xb 2),(4,xb 4),(5,xb 5),(6,xi c),(7,xi d)] [(2,(27,[yi e,yi f,.sn 3 tI g none])),(4,(27,[yi h,yi i,.nil])),(5,(27,[yi j,yi l,.own 20000322]))] [(20000322,(⟨3,.int .i64,a,true,false⟩:Row))]
def zjx:z00:=⟨[1,2,4,5,6,7],[2,4,5],[],[],[(⟨true,5,2⟩,20000322)]⟩
def f92s5(a:LI)(b d e f g h:Int)(i:LI)(j l m o:Int):St:=z16 [(1,xi b),(2,xb 2),(4,xb 4),(5,xb 5),(6,xi d),(7,xi e),(8,.c (.elt 20000322 f 0))] [(2,(27,[yi g,yi h,.sn 3 tI i none])),(4,(27,[yi j,yi l,.nil])),(5,(27,[yi m,yi o,.own 20000322]))] [(20000322,(⟨3,.int .i64,a,true,false⟩:Row))]
def f92l5:z00:=⟨[1,2,4,5,6,7,8],[2,4,5],[],[],[(⟨true,5,2⟩,20000322)]⟩
def f92s6(a:LI)(b d e f g h i j:Int)(l:LI)(m o p q:Int):St:=z16 [(1,xi b),(2,xb 2),(4,xb 4),(5,xb 5),(6,xi d),(7,xi e),(8,.c (.elt 20000322 f 0)),(9,xi g),(10,xi h)] [(2,(27,[yi i,yi j,.sn 3 tI l none])),(4,(27,[yi m,yi o,.nil])),(5,(27,[yi p,yi q,.own 20000322]))] [(20000322,(⟨3,.int .i64,a,true,false⟩:Row))]
def f92l6:z00:=⟨[1,2,4,5,6,7,8,9,10],[2,4,5],[],[],[(⟨true,5,2⟩,20000322)]⟩
def f92s7(a:LI)(b d e f g h:Int)(i:Bool)(j l:Int)(m:LI)(o p q r:Int):St:=z16 [(1,xi b),(2,xb 2),(4,xb 4),(5,xb 5),(6,xi d),(7,xi e),(8,.c (.elt 20000322 f 0)),(9,xi g),(10,xi h),(48,xB i)] [(2,(27,[yi j,yi l,.sn 3 tI m none])),(4,(27,[yi o,yi p,.nil])),(5,(27,[yi q,yi r,.own 20000322]))] [(20000322,(⟨3,.int .i64,a,true,false⟩:Row))]
def f92l7:z00:=⟨[1,2,4,5,6,7,8,9,10,48],[2,4,5],[],[],[(⟨true,5,2⟩,20000322)]⟩
def zpm(a:LI)(b c d e:Int):St:=z16 [(4,xb 4),(5,xb 5)] [(4,(27,[yi b,yi c,.nil])),(5,(27,[yi d,yi e,.own 20000322]))] [(20000322,(⟨3,.int .i64,a,true,false⟩:Row))]
def f92l8:z00:=⟨[4,5],[4,5],[],[],[(⟨true,5,2⟩,20000322)]⟩
def f92s9(a:LI)(b c:Int):St:=z16 [(4,xb 4)] [(4,(27,[yi b,yi c,.own 20000258]))] [(20000258,(⟨3,.int .i64,a,true,false⟩:Row))]
def f92l9:z00:=⟨[4],[4],[],[],[(⟨true,4,2⟩,20000258)]⟩
def f92B:Nat->Option z00:=z17 [(4,zjx),(3,zjx),(2,zjy),(1,zjy),(0,f92l8),(1000000,f92l9)]
abbrev zpn{ρ:Type}(N n:Nat)(σ:St)(l:z00)(K:KT ρ):Option ρ:=z0p f92G tab f92B N (z2o 99 (z1q Tryz.f92) n) .n σ (z14 (some l) K)
def f92t1 N b a (K:KT ρ):zpn N 2 (f92s0 b a) f92l1 K =
 z0e.Z1 N b a (λa c d e f g=>K .nrm (f92s1 a c d e f g)):=by kernel_rfl
def f92t3 N a b c d e f (K:KT ρ):zpn N 5 (f92s1 a b c d e f) f92l2 K =
 z0e.Z3 N a b c d e f (λg a b c d e f h i=>K .nrm (f92s2 g a b c d e f h i)):=by kernel_rfl
def f92t6 N a b c d e f g h i (K:KT ρ):zpn N 19 (f92s2 a b c d e f g h i) zjy K =
 z0e.Z6 N a b c d e f g h i (λa b j c d e f g h i=>K .nrm (zbx a b j c d e f g h i)):=by kernel_rfl
def f92t10 N a f g h i j b c d e (K:KT ρ):zpn N 139 (zbx a f g h i j b c d e) zjy K =
 z0e.Z10 N a f g h i j b c d e (λa f g h i j b c d e=>K .nrm (zbx a f g h i j b c d e)) (λa b c d e=>K (.exit 0) (zpm a b c d e)):=by kernel_rfl
def f92t14 N a b c d e f g h i j (K:KT ρ):zpn N 1099 (zbx a b c d e f g h i j) zjx K =
 z0e.Z14 N a b c d e f g h i j (λa b c l d e f g h i j=>K .nrm (zf4 a b c l d e f g h i j)):=by kernel_rfl
def f92t18 N a b c l d e f g h i j (K:KT ρ):zpn N 8779 (zf4 a b c l d e f g h i j) zjx K =
 z0e.Z18 N a b c l d e f g h i j (λa b c l d e f g h i j=>K .nrm (zf4 a b c l d e f g h i j)) (λa b c d e f g h i j=>K (.exit 2) (zbx a b c d e f g h i j)):=by kernel_rfl
def f92t22 N a b c d e f g h i j l (K:KT ρ):zpn N 70219 (zf4 a b c d e f g h i j l) f92l5 K =
 z0e.Z22 N a b c d e f g h i j l (λa b c d m e f g h i j l=>K .nrm (f92s5 a b c d m e f g h i j l)):=by kernel_rfl
def f92t24 N a b c d e f g h i j l m (K:KT ρ):zpn N 168523 (f92s5 a b c d e f g h i j l m) f92l6 K =
 z0e.Z24 N a b c d e f g h i j l m (λa b c d e o p f g h i j l m=>K .nrm (f92s6 a b c d e o p f g h i j l m)):=by kernel_rfl
def f92t27 N a b c d e f g h i j l m o p (K:KT ρ):zpn N 627275 (f92s6 a b c d e f g h i j l m o p) f92l7 K =
 z0e.Z27 N a b c d e f g h i j l m o p (λa b c d e f g q h i j l m o p=>K .nrm (f92s7 a b c d e f g q h i j l m o p)):=by kernel_rfl
def f92t28 N a b c d m o p q e f g h i j l (K:KT ρ):zpn N 889419 (f92s7 a b c d m o p q e f g h i j l) zjx K =
 z0e.Z28 N a b c d m o p q e f g h i j l (λa b c d e f g h i j l=>K .nrm (zf4 a b c d e f g h i j l)):=by kernel_rfl
def f92t26 N a b c d e f g h i j l m o p (K:KT ρ):=vQ (λk=>z0e.Z27 N a b c d e f g h i j l m o p k) (f92t27 N a b c d e f g h i j l m o p _) (fx15 λa b c d e f g q h i j l m o p=>f92t28 N a b c d e f g q h i j l m o p K)
def f92t25 N a b c d m o p e f g h i j l (K:KT ρ):=vB 4 zjx K (z0e.Z25 N a b c d m o p e f g h i j l (λa b c d e f g h i j l=>K .nrm (zf4 a b c d e f g h i j l))) (f92t26 N a b c d m o p e f g h i j l _) (by kernel_rfl)
def f92t23 N a b c d e f g h i j l m (K:KT ρ):=vQ (λk=>z0e.Z24 N a b c d e f g h i j l m k) (f92t24 N a b c d e f g h i j l m _) (fx14 λa b c d e o p f g h i j l m=>f92t25 N a b c d e o p f g h i j l m K)
def f92t21 N a b c d e f g h i j l (K:KT ρ):=vQ (λk=>z0e.Z22 N a b c d e f g h i j l k) (f92t22 N a b c d e f g h i j l _) (fx12 λa b c d m e f g h i j l=>f92t23 N a b c d m e f g h i j l K)
def f92t20 N a b c d e f g h i j l (K:KT ρ):=vB 3 zjx K (z0e.Z20 N a b c d e f g h i j l (λa b c d e f g h i j l=>K .nrm (zf4 a b c d e f g h i j l))) (f92t21 N a b c d e f g h i j l _) (by kernel_rfl)
def f92t29 N a b c d e f g h i j l (K:KT ρ):zpn N 29259 (zf4 a b c d e f g h i j l) zjx K =
 z0e.Z29 N a b c d e f g h i j l (λa b c d e f g h i j l=>K .nrm (zf4 a b c d e f g h i j l)):=by kernel_rfl
def f92t19 N a b c d e f g h i j l (K:KT ρ):=vQ (λk=>z0e.Z20 N a b c d e f g h i j l k) (f92t20 N a b c d e f g h i j l _) (zlx λa b c d e f g h i j l=>f92t29 N a b c d e f g h i j l K)
def f92t17 N a b c l d e f g h i j (K:KT ρ):=vQ (λk=>z0e.Z18 N a b c l d e f g h i j k (λa b c d e f g h i j=>K (.exit 2) (zbx a b c d e f g h i j))) (f92t18 N a b c l d e f g h i j _) (zlx λa b c l d e f g h i j=>f92t19 N a b c l d e f g h i j K)
def f92t16L N (K:KT ρ):=lp11 K (z0e.Z16L N (λa b c d e f g h i j=>K (.exit 2) (zbx a b c d e f g h i j))) (λa b c l d e f g h i j k=>z0e.Z17 N a b c l d e f g h i j k (λa b c d e f g h i j=>K (.exit 2) (zbx a b c d e f g h i j))) (λF a b c l d e f g h i j=>f92t17 N a b c l d e f g h i j _) (by kernel_rfl)
def f92t16 N a b c d e f g h i j l (K:KT ρ):=vL (zf4 a b c d e f g h i j l) (f92t16L N (jK zjy K) N a b c d e f g h i j l) (by kernel_rfl)
def f92t15 N a b c l d e f g h i j (K:KT ρ):=vB 2 zjy K (z0e.Z15 N a b c l d e f g h i j (λa b c d e f g h i j=>K .nrm (zbx a b c d e f g h i j))) (f92t16 N a b c l d e f g h i j _) (by kernel_rfl)
def f92t13 N a b c d e f g h i j (K:KT ρ):=vQ (λk=>z0e.Z14 N a b c d e f g h i j k) (f92t14 N a b c d e f g h i j _) (zlx λa b c l d e f g h i j=>f92t15 N a b c l d e f g h i j K)
def f92t12 N a b c d e f g h i j (K:KT ρ):=vB 1 zjy K (z0e.Z12 N a b c d e f g h i j (λa b c d e f g h i j=>K .nrm (zbx a b c d e f g h i j))) (f92t13 N a b c d e f g h i j _) (by kernel_rfl)
def f92t30 N a b c d e f g h i j (K:KT ρ):zpn N 459 (zbx a b c d e f g h i j) zjy K =
 z0e.Z30 N a b c d e f g h i j (λa b c d e f g h i j=>K .nrm (zbx a b c d e f g h i j)):=by kernel_rfl
def f92t11 N a b c d e f g h i j (K:KT ρ):=vQ (λk=>z0e.Z12 N a b c d e f g h i j k) (f92t12 N a b c d e f g h i j _) (zf3 λa b c d e f g h i j=>f92t30 N a b c d e f g h i j K)
def f92t9 N a f g h i j b c d e (K:KT ρ):=vQ (λk=>z0e.Z10 N a f g h i j b c d e k (λa b c d e=>K (.exit 0) (zpm a b c d e))) (f92t10 N a f g h i j b c d e _) (zf3 λa f g h i j b c d e=>f92t11 N a f g h i j b c d e K)
def f92t8L N (K:KT ρ):=lp10 K (z0e.Z8L N (λa b c d e=>K (.exit 0) (zpm a b c d e))) (λa f g h i j b c d e k=>z0e.Z9 N a f g h i j b c d e k (λa b c d e=>K (.exit 0) (zpm a b c d e))) (λF a f g h i j b c d e=>f92t9 N a f g h i j b c d e _) (by kernel_rfl)
def f92t8 N a b c d e f g h i j (K:KT ρ):=vL (zbx a b c d e f g h i j) (f92t8L N (jK f92l8 K) N a b c d e f g h i j) (by kernel_rfl)
def f92t7 N a f g h i j b c d e (K:KT ρ):=vB 0 f92l8 K (z0e.Z7 N a f g h i j b c d e (λa b c d e=>K .nrm (zpm a b c d e))) (f92t8 N a f g h i j b c d e _) (by kernel_rfl)
def f92t5 N a b c d e f g h i (K:KT ρ):=vQ (λk=>z0e.Z6 N a b c d e f g h i k) (f92t6 N a b c d e f g h i _) (zf3 λa b j c d e f g h i=>f92t7 N a b j c d e f g h i K)
def f92t31 N c a b d e (K:KT ρ):zpn N 15 (zpm c a b d e) f92lE K =
 z0e.Z31 N c a b d e (λf a b=>K .ret (f92s9 f a b)):=by kernel_rfl
def f92t4 N a f g h i b c d e (K:KT ρ):=vQ (λk=>z0e.Z5 N a f g h i b c d e k) (f92t5 N a f g h i b c d e _) (fx5 λa b c d e=>f92t31 N a b c d e K)
def f92t2 N a b c d e f (K:KT ρ):=vQ (λk=>z0e.Z3 N a b c d e f k) (f92t3 N a b c d e f _) (fx9 λg a b c d e f h i=>f92t4 N g a b c d e f h i K)
def f92t0 N b a (K:KT ρ):=vQ (λk=>z0e.Z1 N b a k) (f92t1 N b a _) (fx6 λa c d e f g=>f92t2 N a c d e f g K)
def f92ok(h:z0e.Spec):z0a Tryz.prog 92 e92 :=
 okC Tryz.func92 z2q f92GOk (λN X K=>f92t0 N X.1 X.2.1 K) (by kernel_rfl) λX hb hp=>by
  obtain⟨a,b,_⟩:=X
  obtain⟨N,h⟩:=h a b hb.1 hp
  exact⟨N,Eq.trans (by kernel_rfl) (h N (Nat.le_refl N))⟩
def e92ok:z0a Tryz.prog 92 e92:=f92ok z0e.ok
end Go.Fw
namespace Go.Fw
variable {ρ : Type}
open Go.Proofs
def f48sig:Sig:=⟨[⟨.pair (.int .i64) (.pair (.int .i64) (.sl 3 (.int .i64))),true,false⟩,⟨.int .i64,false,false⟩],[⟨.pair (.int .i64) (.pair (.int .i64) (.sl 3 (.int .i64))),true,false⟩,⟨.bool,false,false⟩]⟩
def e48:z24:=⟨f48sig,none,λX=>((),((z15.g X.1 X.2.1).1,((z15.g X.1 X.2.1).2,())))⟩
def f48G:Gm:=z3m (z3m (z3m z1n 63 e63) 91 e91) 92 e92
def f48GOk:GOk Tryz.prog f48G:=(((GOk.nil).add e63ok (by kernel_rfl)).add e91ok (by kernel_rfl)).add e92ok (by kernel_rfl)
def f48lE:z00:=⟨[],[],[],[],[]⟩
def f48s0(a:MT)(b:Int):St:=z1k f48sig.ps (a,(b,()))
def f48s1(a:LI)(b:Bool)(c d:Int):St:=z16 [(4,xb 4),(5,xB b)] [(4,(27,[yi c,yi d,.own 20000258]))] [(20000258,(⟨3,.int .i64,a,true,false⟩:Row))]
def f48l1:z00:=⟨[4,5],[4],[⟨⟨true,4,2⟩,30000000,3,.int .i64,true⟩],[],[(⟨true,4,2⟩,20000258)]⟩
def f48B:Nat->Option z00:=z17 [(1000000,f48l1)]
abbrev f48j{ρ:Type}(N n:Nat)(σ:St)(l:z00)(K:KT ρ):Option ρ:=z0p f48G tab f48B N (z2o 99 (z1q Tryz.f48) n) .n σ (z14 (some l) K)
def f48t0 N a b (K:KT ρ):f48j N 1 (f48s0 a b) f48lE K =
 z15.Z0 N a b (λc d e f=>K .ret (f48s1 c d e f)):=by kernel_rfl
def f48ok(h:z15.Spec):z0a Tryz.prog 48 e48 :=
 okC Tryz.func48 z2q f48GOk (λN X K=>f48t0 N X.1 X.2.1 K) (by kernel_rfl) λX hb hp=>by
  obtain⟨a,b,_⟩:=X
  obtain⟨N,h⟩:=h a b hb.1
  exact⟨N,Eq.trans (by kernel_rfl) (h N (Nat.le_refl N))⟩
def e48ok:z0a Tryz.prog 48 e48:=f48ok z15.ok
end Go.Fw
namespace Go.Fw
variable {ρ : Type}
open Go.Proofs
variable [DC]
def f50sig:Sig:=⟨[⟨.pair (.int .i64) (.pair (.int .i64) (.sl 3 (.int .i64))),true,false⟩,⟨.pair (.int .i64) (.pair (.int .i64) (.sl 3 (.int .i64))),true,false⟩],[⟨.int .i64,false,false⟩]⟩
def e50:z24:=⟨f50sig,none,λX=>((),((z2j.g X.1 X.2.1),()))⟩
def f50G:Gm:=z3m z1n 51 e51
def f50GOk:GOk Tryz.prog f50G:=(GOk.nil).add e51ok (by kernel_rfl)
def f50lE:z00:=⟨[],[],[],[],[]⟩
def f50s0(a b:MT):St:=z1k f50sig.ps (a,(b,()))
def f50s1(a:Int):St:=z16 [(4,xi a)] [] []
def f50l1:z00:=⟨[4],[],[],[],[]⟩
def f50B:Nat->Option z00:=z17 [(1000000,f50l1)]
abbrev f50j{ρ:Type}(N n:Nat)(σ:St)(l:z00)(K:KT ρ):Option ρ:=z0p f50G tab f50B N (z2o 99 (z1q Tryz.f50) n) .n σ (z14 (some l) K)
def f50t0 N a b (K:KT ρ):f50j N 1 (f50s0 a b) f50lE K =
 z2j.Z0 N a b (λc=>K .ret (f50s1 c)):=by kernel_rfl
def f50ok(h:z2j.Spec):z0a Tryz.prog 50 e50 :=
 okC Tryz.func50 z2q f50GOk (λN X K=>f50t0 N X.1 X.2.1 K) (by kernel_rfl) λX hb hp=>by
  obtain⟨a,b,_⟩:=X
  obtain⟨N,h⟩:=h a b hb.1 hb.2.1
  exact⟨N,Eq.trans (by kernel_rfl) (h N (Nat.le_refl N))⟩
def e50ok:z0a Tryz.prog 50 e50:=f50ok z2j.ok
end Go.Fw
namespace Go.Fw
variable {ρ : Type}
open Go.Proofs
def f49sig:Sig:=⟨[⟨.sl 27 (.pair (.int .i64) (.pair (.int .i64) (.sl 3 (.int .i64)))),false,true⟩,⟨.fnc 50,false,false⟩],[]⟩
def e49:z24:=⟨f49sig,(some λX=>z07.P X.1 X.2.1),λX=>((z07.g X.1 X.2.1),())⟩
def zsr:Go.Shelf.Ren:=⟨λ| 6=>49 | 15=>94 | 14=>93 | 28=>130 | 29=>131 | 20=>122 | 21=>123 | 22=>124 | 23=>125 | 24=>126 | 25=>127 | 26=>128 | 27=>129 | 46=>160 | 47=>161 | 48=>162 | 49=>163 | 50=>164 | 57=>184 | n=>n,λ| 22=>31 | 24=>27 | 25=>63 | 3=>3 | 39=>96 | 0=>0 | 53=>130 | 55=>132 | 4=>4 | 46=>123 | 45=>122 | 50=>127 | 5=>5 | 9=>9 | 66=>150 | 70=>120 | 76=>173 | 77=>174 | n=>n,λn=>n⟩
def f49lay:SlLaysF0.n6 Tryz.prog zsr:={ mixed:=(by kernel_rfl),f6:=⟨Tryz.f49.name,(by kernel_rfl),Tryz.func49.trans (congrArg some (by kernel_rfl))⟩,f14:=⟨Tryz.f93.name,(by kernel_rfl),Tryz.func93.trans (congrArg some (by kernel_rfl))⟩,f15:=Tryz.func94.trans (congrArg some (by kernel_rfl)),f20:=⟨Tryz.f122.name,(by kernel_rfl),Tryz.func122.trans (congrArg some (by kernel_rfl))⟩,f21:=⟨Tryz.f123.name,(by kernel_rfl),Tryz.func123.trans (congrArg some (by kernel_rfl))⟩,f22:=⟨Tryz.f124.name,(by kernel_rfl),Tryz.func124.trans (congrArg some (by kernel_rfl))⟩,f23:=⟨Tryz.f125.name,(by kernel_rfl),Tryz.func125.trans (congrArg some (by kernel_rfl))⟩,f24:=⟨Tryz.f126.name,(by kernel_rfl),Tryz.func126.trans (congrArg some (by kernel_rfl))⟩,f25:=⟨Tryz.f127.name,(by kernel_rfl),Tryz.func127.trans (congrArg some (by kernel_rfl))⟩,f26:=⟨Tryz.f128.name,(by kernel_rfl),Tryz.func128.trans (congrArg some (by kernel_rfl))⟩,f27:=⟨Tryz.f129.name,(by kernel_rfl),Tryz.func129.trans (congrArg some (by kernel_rfl))⟩,f28:=Tryz.func130.trans (congrArg some (by kernel_rfl)),f29:=Tryz.func131.trans (congrArg some (by kernel_rfl)),f46:=⟨Tryz.f160.name,(by kernel_rfl),Tryz.func160.trans (congrArg some (by kernel_rfl))⟩,f47:=Tryz.func161.trans (congrArg some (by kernel_rfl)),f48:=Tryz.func162.trans (congrArg some (by kernel_rfl)),f49:=⟨Tryz.f163.name,(by kernel_rfl),Tryz.func163.trans (congrArg some (by kernel_rfl))⟩,f50:=⟨Tryz.f164.name,(by kernel_rfl),Tryz.func164.trans (congrArg some (by kernel_rfl))⟩,f57:=⟨Tryz.f184.name,(by kernel_rfl),Tryz.func184.trans (congrArg some (by kernel_rfl))⟩,t0:=Tryz.underlying0,a0:=Tryz.isAgg0,z0:=Tryz.sizeOf0,v0:=Tryz.zeroValue0,t3:=Tryz.underlying3,a3:=Tryz.isAgg3,z3:=Tryz.sizeOf3,v3:=Tryz.zeroValue3,t4:=Tryz.underlying4,a4:=Tryz.isAgg4,z4:=Tryz.sizeOf4,v4:=Tryz.zeroValue4,t5:=Tryz.underlying5,a5:=Tryz.isAgg5,z5:=Tryz.sizeOf5,v5:=Tryz.zeroValue5,t9:=Tryz.underlying9,a9:=Tryz.isAgg9,z9:=Tryz.sizeOf9,v9:=Tryz.zeroValue9,t22:=Tryz.underlying31,a22:=Tryz.isAgg31,z22:=Tryz.sizeOf31,v22:=Tryz.zeroValue31,t25:=Tryz.underlying63,a25:=Tryz.isAgg63,z25:=Tryz.sizeOf63,v25:=Tryz.zeroValue63,t39:=Tryz.underlying96,a39:=Tryz.isAgg96,z39:=Tryz.sizeOf96,v39:=Tryz.zeroValue96,t45:=Tryz.underlying122,a45:=Tryz.isAgg122,z45:=Tryz.sizeOf122,v45:=Tryz.zeroValue122,t46:=Tryz.underlying123,a46:=Tryz.isAgg123,z46:=Tryz.sizeOf123,v46:=Tryz.zeroValue123,t50:=Tryz.underlying127,a50:=Tryz.isAgg127,z50:=Tryz.sizeOf127,v50:=Tryz.zeroValue127,t53:=Tryz.underlying130,a53:=Tryz.isAgg130,z53:=Tryz.sizeOf130,v53:=Tryz.zeroValue130,t55:=Tryz.underlying132,a55:=Tryz.isAgg132,z55:=Tryz.sizeOf132,v55:=Tryz.zeroValue132,t66:=Tryz.underlying150,a66:=Tryz.isAgg150,z66:=Tryz.sizeOf150,v66:=Tryz.zeroValue150,t70:=Tryz.underlying120,a70:=Tryz.isAgg120,z70:=Tryz.sizeOf120,v70:=Tryz.zeroValue120,t76:=Tryz.underlying173,a76:=Tryz.isAgg173,z76:=Tryz.sizeOf173,v76:=Tryz.zeroValue173,t77:=Tryz.underlying174,a77:=Tryz.isAgg174,z77:=Tryz.sizeOf174,v77:=Tryz.zeroValue174 }
def f49ok(_:True):z0a Tryz.prog 49 e49:=zlj (t:=.pair (.int .i64) (.pair (.int .i64) (.sl 3 (.int .i64)))) (e:=27) f49lay (c:=50) (0,(0,[])) Tryz.isAgg27 Tryz.sizeOf27 zlf (@e50ok DC.tt) (by
 have h2:¬ Tryz.f50.body=none:=by
  intro h
  have:Tryz.f50.body.isSome=true:=by kernel_rfl
  rw[h]at this
  cases this
 have h1 : ¬ Tryz.f50.name = "runtime.NumGoroutine" := by decide +kernel
 intro args w
 simp[callFunc,Tryz.func50,h1,h2])
def e49ok:z0a Tryz.prog 49 e49:=f49ok z07.ok
end Go.Fw
namespace Go.Fw
variable {ρ : Type}
open Go.Proofs
def f15sig:Sig:=⟨[⟨.pair (.int .i64) (.pair (.int .i64) (.sl 3 (.int .i64))),true,false⟩],[⟨.sl 27 (.pair (.int .i64) (.pair (.int .i64) (.sl 3 (.int .i64)))),false,false⟩,⟨.bool,false,false⟩]⟩
def e15:z24:=⟨f15sig,none,λX=>((),((z08.g X.1).1,((z08.g X.1).2,())))⟩
def f15G:Gm:=z3m (z3m (z3m (z3m z1n 34 e34) 47 e47) 48 e48) 49 e49
def f15GOk:GOk Tryz.prog f15G:=((((GOk.nil).add e34ok (by kernel_rfl)).add e47ok (by kernel_rfl)).add e48ok (by kernel_rfl)).add e49ok (by kernel_rfl)
def f15lE:z00:=⟨[],[],[],[],[]⟩
def f15s0(a:MT):St:=z1k f15sig.ps (a,())
def f15s1(a b:Int)(c:LI):St:=z16 [(1,xb 1)] [(1,(27,[yi a,yi b,.sn 3 tI c none]))] []
def f15l1:z00:=⟨[1],[1],[],[],[]⟩
def f15s2(a:LI)(b:Bool)(c d:Int)(e:LI)(f g:Int):St:=z16 [(1,xb 1),(4,xb 4),(5,xB b)] [(1,(27,[yi c,yi d,.sn 3 tI e none])),(4,(27,[yi f,yi g,.own 20000258]))] [(20000258,(⟨3,.int .i64,a,true,false⟩:Row))]
def f15l2:z00:=⟨[1,4,5],[1,4],[],[],[(⟨true,4,2⟩,20000258)]⟩
def f15s3(a:LI)(b c:Int)(d:LI)(e f:Int):St:=z16 [(1,xb 1),(4,xb 4)] [(1,(27,[yi b,yi c,.sn 3 tI d none])),(4,(27,[yi e,yi f,.own 20000258]))] [(20000258,(⟨3,.int .i64,a,true,false⟩:Row))]
def f15l3:z00:=⟨[1,4],[1,4],[],[],[(⟨true,4,2⟩,20000258)]⟩
def f15s4(a:LM)(b c:Int)(d:LI)(e f:Int)(g:LI):St:=z16 [(1,xb 1),(4,xb 4),(6,xo 1000384)] [(1,(27,[yi b,yi c,.sn 3 tI d none])),(4,(27,[yi e,yi f,.sn 3 tI g (some 1000384)]))] [(1000384,(⟨27,tM 3,a,true,false⟩:Row))]
def f15l4:z00:=⟨[1,4,6],[1,4],[],[],[(⟨false,6,0⟩,1000384)]⟩
def f15s5(a:LM)(b d:Int)(e:LI)(f:List ByteArray):St:=z16 [(1,xb 1),(6,xo 1000384),(7,.c (.mp 24))] [(1,(27,[yi b,yi d,.sn 3 tI e none])),(24,(1000000059,[.mset (.str) f]))] [(1000384,(⟨27,tM 3,a,true,false⟩:Row))]
def f15l5:z00:=⟨[1,6,7],[1,24],[],[],[(⟨false,6,0⟩,1000384)]⟩
def zd8(a:LM)(b d e:Int)(f:LI)(g:List ByteArray):St:=z16 [(1,xb 1),(6,xo 1000384),(7,.c (.mp 24)),(8,xi b)] [(1,(27,[yi d,yi e,.sn 3 tI f none])),(24,(1000000059,[.mset (.str) g]))] [(1000384,(⟨27,tM 3,a,true,false⟩:Row))]
def zkh:z00:=⟨[1,6,7,8],[1,24],[],[],[(⟨false,6,0⟩,1000384)]⟩
def f15s7(a:LM)(b d e f:Int)(g:LI)(h:List ByteArray):St:=z16 [(1,xb 1),(6,xo 1000384),(7,.c (.mp 24)),(8,xi b),(9,xi d)] [(1,(27,[yi e,yi f,.sn 3 tI g none])),(24,(1000000059,[.mset (.str) h]))] [(1000384,(⟨27,tM 3,a,true,false⟩:Row))]
def f15l7:z00:=⟨[1,6,7,8,9],[1,24],[],[],[(⟨false,6,0⟩,1000384)]⟩
def zq2(a:LM):St:=z16 [(6,xo 1000384)] [] [(1000384,(⟨27,tM 3,a,true,false⟩:Row))]
def f15l8:z00:=⟨[6],[],[],[],[(⟨false,6,0⟩,1000384)]⟩
def zc1(a:LM)(b:Bool):St:=z16 [(2,xo 1000128),(3,xB b)] [] [(1000128,(⟨27,tM 3,a,true,false⟩:Row))]
def f15l9:z00:=⟨[2,3],[],[⟨⟨false,2,0⟩,30000000,27,.pair (.int .i64) (.pair (.int .i64) (.sl 3 (.int .i64))),true⟩],[],[(⟨false,2,0⟩,1000128)]⟩
def f15B:Nat->Option z00:=z17 [(2,zkh),(1,zkh),(0,f15l8),(1000000,f15l9)]
abbrev zt0{ρ:Type}(N n:Nat)(σ:St)(l:z00)(K:KT ρ):Option ρ:=z0p f15G tab f15B N (z2o 99 (z1q Tryz.f15) n) .n σ (z14 (some l) K)
def f15t1 N a (K:KT ρ):zt0 N 2 (f15s0 a) f15l1 K =
 z08.Z1 N a (λb c d=>K .nrm (f15s1 b c d)):=by kernel_rfl
def f15t3 N a b c (K:KT ρ):zt0 N 5 (f15s1 a b c) f15l2 K =
 z08.Z3 N a b c (λd e a b c f g=>K .nrm (f15s2 d e a b c f g)):=by kernel_rfl
def f15t5 N a g b c d e f (K:KT ρ):zt0 N 11 (f15s2 a g b c d e f) f15l3 K =
 z08.Z5 N a g b c d e f (λa b c d e f=>K .nrm (f15s3 a b c d e f)) (λh i=>K .ret (zc1 h i)):=by kernel_rfl
def f15t7 N a b c d e f (K:KT ρ):zt0 N 23 (f15s3 a b c d e f) f15l4 K =
 z08.Z7 N a b c d e f (λg b c d e f a=>K .nrm (f15s4 g b c d e f a)):=by kernel_rfl
def f15t9 N a b c d e f g (K:KT ρ):zt0 N 47 (f15s4 a b c d e f g) f15l5 K =
 z08.Z9 N a b c d e f g (λa b c d h=>K .nrm (f15s5 a b c d h)):=by kernel_rfl
def f15t12 N a b c d e (K:KT ρ):zt0 N 159 (f15s5 a b c d e) zkh K =
 z08.Z12 N a b c d e (λa f b c d e=>K .nrm (zd8 a f b c d e)):=by kernel_rfl
def f15t16 N a b c d e f (K:KT ρ):zt0 N 1119 (zd8 a b c d e f) zkh K =
 z08.Z16 N a b c d e f (λa b c d e f=>K .nrm (zd8 a b c d e f)) (λa=>K (.exit 0) (zq2 a)):=by kernel_rfl
def f15t20 N a b c d e f (K:KT ρ):zt0 N 8799 (zd8 a b c d e f) f15l7 K =
 z08.Z20 N a b c d e f (λa b g c d e f=>K .nrm (f15s7 a b g c d e f)):=by kernel_rfl
def f15t23 N a b g c d e f (K:KT ρ):zt0 N 37471 (f15s7 a b g c d e f) f15l7 K =
 z08.Z23 N a b g c d e f (λa b g c d e f=>K .nrm (f15s7 a b g c d e f)) (λa b c d e f=>K (.exit 2) (zd8 a b c d e f)) (λh i=>K .ret (zc1 h i)):=by kernel_rfl
def f15t22L N (K:KT ρ):=lp7 K (z08.Z22L N (λa b c d e f=>K (.exit 2) (zd8 a b c d e f)) (λg h=>K .ret (zc1 g h))) (λa b i c d e f k=>z08.Z23 N a b i c d e f k (λa b c d e f=>K (.exit 2) (zd8 a b c d e f)) (λg h=>K .ret (zc1 g h))) (λF a b i c d e f=>f15t23 N a b i c d e f _) (by kernel_rfl)
def f15t22 N a b c d e f g (K:KT ρ):=vL (f15s7 a b c d e f g) (f15t22L N (jK zkh K) N a b c d e f g) (by kernel_rfl)
def f15t21 N a b g c d e f (K:KT ρ):=vB 2 zkh K (z08.Z21 N a b g c d e f (λa b c d e f=>K .nrm (zd8 a b c d e f)) (λh i=>K .ret (zc1 h i))) (f15t22 N a b g c d e f _) (by kernel_rfl)
def f15t19 N a b c d e f (K:KT ρ):=vQ (λk=>z08.Z20 N a b c d e f k) (f15t20 N a b c d e f _) (fx7 λa b g c d e f=>f15t21 N a b g c d e f K)
def f15t18 N a b c d e f (K:KT ρ):=vB 1 zkh K (z08.Z18 N a b c d e f (λa b c d e f=>K .nrm (zd8 a b c d e f)) (λg h=>K .ret (zc1 g h))) (f15t19 N a b c d e f _) (by kernel_rfl)
def f15t24 N a b c d e f (K:KT ρ):zt0 N 3679 (zd8 a b c d e f) zkh K =
 z08.Z24 N a b c d e f (λa b c d e f=>K .nrm (zd8 a b c d e f)):=by kernel_rfl
def f15t17 N a b c d e f (K:KT ρ):=vQ (λk=>z08.Z18 N a b c d e f k (λg h=>K .ret (zc1 g h))) (f15t18 N a b c d e f _) (fx6 λa b c d e f=>f15t24 N a b c d e f K)
def f15t15 N a b c d e f (K:KT ρ):=vQ (λk=>z08.Z16 N a b c d e f k (λa=>K (.exit 0) (zq2 a))) (f15t16 N a b c d e f _) (fx6 λa b c d e f=>f15t17 N a b c d e f K)
def f15t14L N (K:KT ρ):=lp6 K (z08.Z14L N (λa=>K (.exit 0) (zq2 a)) (λb c=>K .ret (zc1 b c))) (λa d e f g h k=>z08.Z15 N a d e f g h k (λa=>K (.exit 0) (zq2 a)) (λb c=>K .ret (zc1 b c))) (λF a d e f g h=>f15t15 N a d e f g h _) (by kernel_rfl)
def f15t14 N a b c d e f (K:KT ρ):=vL (zd8 a b c d e f) (f15t14L N (jK f15l8 K) N a b c d e f) (by kernel_rfl)
def f15t13 N a b c d e f (K:KT ρ):=vB 0 f15l8 K (z08.Z13 N a b c d e f (λa=>K .nrm (zq2 a)) (λg h=>K .ret (zc1 g h))) (f15t14 N a b c d e f _) (by kernel_rfl)
def f15t11 N a b c d e (K:KT ρ):=vQ (λk=>z08.Z12 N a b c d e k) (f15t12 N a b c d e _) (fx6 λa f b c d e=>f15t13 N a f b c d e K)
def f15t25 N a (K:KT ρ):zt0 N 127 (zq2 a) f15lE K =
 z08.Z25 N a (λb c=>K .ret (zc1 b c)):=by kernel_rfl
def f15t10 N a b c d e (K:KT ρ):=vQ (λk=>z08.Z11 N a b c d e k (λf g=>K .ret (zc1 f g))) (f15t11 N a b c d e _) (funext λa=>f15t25 N a K)
def f15t8 N a b c d e f g (K:KT ρ):=vQ (λk=>z08.Z9 N a b c d e f g k) (f15t9 N a b c d e f g _) (fx5 λa b c d h=>f15t10 N a b c d h K)
def f15t6 N a b c d e f (K:KT ρ):=vQ (λk=>z08.Z7 N a b c d e f k) (f15t7 N a b c d e f _) (fx7 λg b c d e f a=>f15t8 N g b c d e f a K)
def f15t4 N a g b c d e f (K:KT ρ):=vQ (λk=>z08.Z5 N a g b c d e f k (λh i=>K .ret (zc1 h i))) (f15t5 N a g b c d e f _) (fx6 λa b c d e f=>f15t6 N a b c d e f K)
def f15t2 N a b c (K:KT ρ):=vQ (λk=>z08.Z3 N a b c k) (f15t3 N a b c _) (fx7 λd e a b c f g=>f15t4 N d e a b c f g K)
def f15t0 N a (K:KT ρ):=vQ (λk=>z08.Z1 N a k) (f15t1 N a _) (fx3 λb c d=>f15t2 N b c d K)
def f15ok(h:z08.Spec):z0a Tryz.prog 15 e15 :=
 okC Tryz.func15 z2q f15GOk (λN X K=>f15t0 N X.1 K) (by kernel_rfl) λX hb hp=>by
  obtain⟨a,_⟩:=X
  obtain⟨N,h⟩:=h a hb.1
  exact⟨N,Eq.trans (by kernel_rfl) (h N (Nat.le_refl N))⟩
def e15ok:z0a Tryz.prog 15 e15:=f15ok z08.ok
end Go.Fw
namespace Go.Fw
variable {ρ : Type}
open Go.Proofs
def f42sig:Sig:=⟨[⟨.pair (.int .i64) (.pair (.int .i64) (.sl 3 (.int .i64))),true,false⟩],[⟨.sl 27 (.pair (.int .i64) (.pair (.int .i64) (.sl 3 (.int .i64)))),false,false⟩,⟨.bool,false,false⟩]⟩
def e42:z24:=⟨f42sig,none,λX=>((),((z05.g X.1).1,((z05.g X.1).2,())))⟩
def f42G:Gm:=z3m (z3m (z3m z1n 15 e15) 31 e31) 83 e83
def f42GOk:GOk Tryz.prog f42G:=(((GOk.nil).add e15ok (by kernel_rfl)).add e31ok (by kernel_rfl)).add e83ok (by kernel_rfl)
def f42lE:z00:=⟨[],[],[],[],[]⟩
def f42s0(a:MT):St:=z1k f42sig.ps (a,())
def f42s1(a b:Int)(c:LI):St:=z16 [(1,xb 1)] [(1,(27,[yi a,yi b,.sn 3 tI c none]))] []
def f42l1:z00:=⟨[1],[1],[],[],[]⟩
def f42s2(a:LM)(b:Bool):St:=z16 [(4,xo 1000256),(5,xB b)] [] [(1000256,(⟨27,tM 3,a,true,false⟩:Row))]
def f42l2:z00:=⟨[4,5],[],[],[],[(⟨false,4,0⟩,1000256)]⟩
def zkc(a:LM):St:=z16 [(4,xo 1000256)] [] [(1000256,(⟨27,tM 3,a,true,false⟩:Row))]
def f42l3:z00:=⟨[4],[],[],[],[(⟨false,4,0⟩,1000256)]⟩
def zc0(a:LM)(b c:Int):St:=z16 [(4,xo 1000256),(18,xo 1000256),(19,xi b),(20,xi c)] [] [(1000256,(⟨27,tM 3,a,true,false⟩:Row))]
def zke:z00:=⟨[4,18,19,20],[],[],[],[(⟨false,4,0⟩,1000256)]⟩
def f42s5(a:LM)(b c:Int)(d:Bool):St:=z16 [(4,xo 1000256),(18,xo 1000256),(19,xi b),(20,xi c),(21,xB d)] [] [(1000256,(⟨27,tM 3,a,true,false⟩:Row))]
def f42l5:z00:=⟨[4,18,19,20,21],[],[],[],[(⟨false,4,0⟩,1000256)]⟩
def f42s6(a:LM)(b c d e:Int)(f:LI):St:=z16 [(4,xo 1000256),(7,xb 7),(18,xo 1000256),(19,xi b),(20,xi c)] [(7,(27,[yi d,yi e,.sn 3 tI f (some 1000256)]))] [(1000256,(⟨27,tM 3,a,true,false⟩:Row))]
def f42l6:z00:=⟨[4,7,18,19,20],[7],[],[],[(⟨false,4,0⟩,1000256)]⟩
def zd7(a:LM)(b c d e f:Int)(g:LI):St:=z16 [(4,xo 1000256),(7,xb 7),(8,xi b),(18,xo 1000256),(19,xi c),(20,xi d)] [(7,(27,[yi e,yi f,.sn 3 tI g (some 1000256)]))] [(1000256,(⟨27,tM 3,a,true,false⟩:Row))]
def zkd:z00:=⟨[4,7,8,18,19,20],[7],[],[],[(⟨false,4,0⟩,1000256)]⟩
def f42s8(a:LM)(b c d e f g:Int)(h:LI):St:=z16 [(4,xo 1000256),(7,xb 7),(8,xi b),(9,xi c),(18,xo 1000256),(19,xi d),(20,xi e)] [(7,(27,[yi f,yi g,.sn 3 tI h (some 1000256)]))] [(1000256,(⟨27,tM 3,a,true,false⟩:Row))]
def f42l8:z00:=⟨[4,7,8,9,18,19,20],[7],[],[],[(⟨false,4,0⟩,1000256)]⟩
def z88(a:LM)(b:Bool):St:=z16 [(2,xo 1000128),(3,xB b)] [] [(1000128,(⟨27,tM 3,a,true,false⟩:Row))]
def f42l9:z00:=⟨[2,3],[],[⟨⟨false,2,0⟩,30000000,27,.pair (.int .i64) (.pair (.int .i64) (.sl 3 (.int .i64))),true⟩],[],[(⟨false,2,0⟩,1000128)]⟩
def f42B:Nat->Option z00:=z17 [(4,zkd),(3,zkd),(2,zke),(1,zke),(0,f42l3),(1000000,f42l9)]
abbrev znz{ρ:Type}(N n:Nat)(σ:St)(l:z00)(K:KT ρ):Option ρ:=z0p f42G tab f42B N (z2o 99 (z1q Tryz.f42) n) .n σ (z14 (some l) K)
def f42t1 N a (K:KT ρ):znz N 2 (f42s0 a) f42l1 K =
 z05.Z1 N a (λb c d=>K .nrm (f42s1 b c d)):=by kernel_rfl
def f42t3 N a b c (K:KT ρ):znz N 5 (f42s1 a b c) f42l2 K =
 z05.Z3 N a b c (λd e=>K .nrm (f42s2 d e)):=by kernel_rfl
def f42t5 N a b (K:KT ρ):znz N 11 (f42s2 a b) f42l3 K =
 z05.Z5 N a b (λa=>K .nrm (zkc a)) (λc d=>K .ret (z88 c d)):=by kernel_rfl
def f42t8 N a (K:KT ρ):znz N 39 (zkc a) zke K =
 z05.Z8 N a (λa b c=>K .nrm (zc0 a b c)):=by kernel_rfl
def f42t12 N a b c (K:KT ρ):znz N 279 (zc0 a b c) f42l5 K =
 z05.Z12 N a b c (λa b c d=>K .nrm (f42s5 a b c d)):=by kernel_rfl
def f42t14 N a b c d (K:KT ρ):znz N 663 (f42s5 a b c d) zke K =
 z05.Z14 N a b c d (λa b c=>K .nrm (zc0 a b c)) (λa=>K (.exit 0) (zkc a)):=by kernel_rfl
def f42t18 N a b c (K:KT ρ):znz N 4503 (zc0 a b c) f42l6 K =
 z05.Z18 N a b c (λa b c d e f=>K .nrm (f42s6 a b c d e f)):=by kernel_rfl
def f42t20 N a b c d e f (K:KT ρ):znz N 10647 (f42s6 a b c d e f) zkd K =
 z05.Z20 N a b c d e f (λa g b c d e f=>K .nrm (zd7 a g b c d e f)):=by kernel_rfl
def f42t24 N a d b c e f g (K:KT ρ):znz N 72087 (zd7 a d b c e f g) zkd K =
 z05.Z24 N a d b c e f g (λa d b c e f g=>K .nrm (zd7 a d b c e f g)) (λa b c=>K (.exit 2) (zc0 a b c)):=by kernel_rfl
def f42t28 N a b c d e f g (K:KT ρ):znz N 563607 (zd7 a b c d e f g) f42l8 K =
 z05.Z28 N a b c d e f g (λa b h c d e f g=>K .nrm (f42s8 a b h c d e f g)):=by kernel_rfl
def f42t31 N a b h c d e f g (K:KT ρ):znz N 2398615 (f42s8 a b h c d e f g) f42l8 K =
 z05.Z31 N a b h c d e f g (λa b h c d e f g=>K .nrm (f42s8 a b h c d e f g)) (λa b c d e f g=>K (.exit 4) (zd7 a b c d e f g)) (λi j=>K .ret (z88 i j)):=by kernel_rfl
def f42t30L N (K:KT ρ):=lp8 K (z05.Z30L N (λa b c d e f g=>K (.exit 4) (zd7 a b c d e f g)) (λh i=>K .ret (z88 h i))) (λa b j c d e f g k=>z05.Z31 N a b j c d e f g k (λa b c d e f g=>K (.exit 4) (zd7 a b c d e f g)) (λh i=>K .ret (z88 h i))) (λF a b j c d e f g=>f42t31 N a b j c d e f g _) (by kernel_rfl)
def f42t30 N a b c d e f g h (K:KT ρ):=vL (f42s8 a b c d e f g h) (f42t30L N (jK zkd K) N a b c d e f g h) (by kernel_rfl)
def f42t29 N a b h c d e f g (K:KT ρ):=vB 4 zkd K (z05.Z29 N a b h c d e f g (λa b c d e f g=>K .nrm (zd7 a b c d e f g)) (λi j=>K .ret (z88 i j))) (f42t30 N a b h c d e f g _) (by kernel_rfl)
def f42t27 N a b c d e f g (K:KT ρ):=vQ (λk=>z05.Z28 N a b c d e f g k) (f42t28 N a b c d e f g _) (fx8 λa b h c d e f g=>f42t29 N a b h c d e f g K)
def f42t26 N a b c d e f g (K:KT ρ):=vB 3 zkd K (z05.Z26 N a b c d e f g (λa b c d e f g=>K .nrm (zd7 a b c d e f g)) (λh i=>K .ret (z88 h i))) (f42t27 N a b c d e f g _) (by kernel_rfl)
def f42t32 N a b c d e f g (K:KT ρ):znz N 235927 (zd7 a b c d e f g) zkd K =
 z05.Z32 N a b c d e f g (λa b c d e f g=>K .nrm (zd7 a b c d e f g)):=by kernel_rfl
def f42t25 N a b c d e f g (K:KT ρ):=vQ (λk=>z05.Z26 N a b c d e f g k (λh i=>K .ret (z88 h i))) (f42t26 N a b c d e f g _) (fx7 λa b c d e f g=>f42t32 N a b c d e f g K)
def f42t23 N a d b c e f g (K:KT ρ):=vQ (λk=>z05.Z24 N a d b c e f g k (λa b c=>K (.exit 2) (zc0 a b c))) (f42t24 N a d b c e f g _) (fx7 λa d b c e f g=>f42t25 N a d b c e f g K)
def f42t22L N (K:KT ρ):=lp7 K (z05.Z22L N (λa b c=>K (.exit 2) (zc0 a b c)) (λd e=>K .ret (z88 d e))) (λa f b c g h i k=>z05.Z23 N a f b c g h i k (λa b c=>K (.exit 2) (zc0 a b c)) (λd e=>K .ret (z88 d e))) (λF a f b c g h i=>f42t23 N a f b c g h i _) (by kernel_rfl)
def f42t22 N a b c d e f g (K:KT ρ):=vL (zd7 a b c d e f g) (f42t22L N (jK zke K) N a b c d e f g) (by kernel_rfl)
def f42t21 N a d b c e f g (K:KT ρ):=vB 2 zke K (z05.Z21 N a d b c e f g (λa b c=>K .nrm (zc0 a b c)) (λh i=>K .ret (z88 h i))) (f42t22 N a d b c e f g _) (by kernel_rfl)
def f42t19 N a b c d e f (K:KT ρ):=vQ (λk=>z05.Z20 N a b c d e f k) (f42t20 N a b c d e f _) (fx7 λa g b c d e f=>f42t21 N a g b c d e f K)
def f42t17 N a b c (K:KT ρ):=vQ (λk=>z05.Z18 N a b c k) (f42t18 N a b c _) (fx6 λa b c d e f=>f42t19 N a b c d e f K)
def f42t16 N a b c (K:KT ρ):=vB 1 zke K (z05.Z16 N a b c (λa b c=>K .nrm (zc0 a b c)) (λd e=>K .ret (z88 d e))) (f42t17 N a b c _) (by kernel_rfl)
def f42t33 N a b c (K:KT ρ):znz N 1943 (zc0 a b c) zke K =
 z05.Z33 N a b c (λa b c=>K .nrm (zc0 a b c)):=by kernel_rfl
def f42t15 N a b c (K:KT ρ):=vQ (λk=>z05.Z16 N a b c k (λd e=>K .ret (z88 d e))) (f42t16 N a b c _) (fx3 λa b c=>f42t33 N a b c K)
def f42t13 N a b c d (K:KT ρ):=vQ (λk=>z05.Z14 N a b c d k (λa=>K (.exit 0) (zkc a))) (f42t14 N a b c d _) (fx3 λa b c=>f42t15 N a b c K)
def f42t11 N a b c (K:KT ρ):=vQ (λk=>z05.Z12 N a b c k) (f42t12 N a b c _) (fx4 λa b c d=>f42t13 N a b c d K)
def f42t10L N (K:KT ρ):=lp3 K (z05.Z10L N (λa=>K (.exit 0) (zkc a)) (λb c=>K .ret (z88 b c))) (λa d e k=>z05.Z11 N a d e k (λa=>K (.exit 0) (zkc a)) (λb c=>K .ret (z88 b c))) (λF a d e=>f42t11 N a d e _) (by kernel_rfl)
def f42t10 N a b c (K:KT ρ):=vL (zc0 a b c) (f42t10L N (jK f42l3 K) N a b c) (by kernel_rfl)
def f42t9 N a b c (K:KT ρ):=vB 0 f42l3 K (z05.Z9 N a b c (λa=>K .nrm (zkc a)) (λd e=>K .ret (z88 d e))) (f42t10 N a b c _) (by kernel_rfl)
def f42t7 N a (K:KT ρ):=vQ (λk=>z05.Z8 N a k) (f42t8 N a _) (fx3 λa b c=>f42t9 N a b c K)
def f42t34 N a (K:KT ρ):znz N 31 (zkc a) f42lE K =
 z05.Z34 N a (λb c=>K .ret (z88 b c)):=by kernel_rfl
def f42t6 N a (K:KT ρ):=vQ (λk=>z05.Z7 N a k (λb c=>K .ret (z88 b c))) (f42t7 N a _) (funext λa=>f42t34 N a K)
def f42t4 N a b (K:KT ρ):=vQ (λk=>z05.Z5 N a b k (λc d=>K .ret (z88 c d))) (f42t5 N a b _) (funext λa=>f42t6 N a K)
def f42t2 N a b c (K:KT ρ):=vQ (λk=>z05.Z3 N a b c k) (f42t3 N a b c _) (fx2 λd e=>f42t4 N d e K)
def f42t0 N a (K:KT ρ):=vQ (λk=>z05.Z1 N a k) (f42t1 N a _) (fx3 λb c d=>f42t2 N b c d K)
def f42ok(h:z05.Spec):z0a Tryz.prog 42 e42 :=
 okC Tryz.func42 z2q f42GOk (λN X K=>f42t0 N X.1 K) (by kernel_rfl) λX hb hp=>by
  obtain⟨a,_⟩:=X
  obtain⟨N,h⟩:=h a hb.1
  exact⟨N,Eq.trans (by kernel_rfl) (h N (Nat.le_refl N))⟩
def e42ok:z0a Tryz.prog 42 e42:=f42ok z05.ok
end Go.Fw
namespace Go.Fw
variable {ρ : Type}
open Go.Proofs
def f12sig:Sig:=⟨[⟨.pair (.int .i64) (.pair (.int .i64) (.sl 3 (.int .i64))),true,false⟩],[⟨.bool,false,false⟩]⟩
def e12:z24:=⟨f12sig,none,λX=>((),((z2h.g X.1),()))⟩
def f12G:Gm:=z3m z1n 42 e42
def f12GOk:GOk Tryz.prog f12G:=(GOk.nil).add e42ok (by kernel_rfl)
def f12lE:z00:=⟨[],[],[],[],[]⟩
def f12s0(a:MT):St:=z1k f12sig.ps (a,())
def f12s1(a:Bool):St:=z16 [(2,xB a)] [] []
def f12l1:z00:=⟨[2],[],[],[],[]⟩
def f12B:Nat->Option z00:=z17 [(1000000,f12l1)]
abbrev f12j{ρ:Type}(N n:Nat)(σ:St)(l:z00)(K:KT ρ):Option ρ:=z0p f12G tab f12B N (z2o 99 (z1q Tryz.f12) n) .n σ (z14 (some l) K)
def f12t0 N a (K:KT ρ):f12j N 1 (f12s0 a) f12lE K =
 z2h.Z0 N a (λb=>K .ret (f12s1 b)):=by kernel_rfl
def f12ok(h:z2h.Spec):z0a Tryz.prog 12 e12 :=
 okC Tryz.func12 z2q f12GOk (λN X K=>f12t0 N X.1 K) (by kernel_rfl) λX hb hp=>by
  obtain⟨a,_⟩:=X
  obtain⟨N,h⟩:=h a hb.1
  exact⟨N,Eq.trans (by kernel_rfl) (h N (Nat.le_refl N))⟩
def e12ok:z0a Tryz.prog 12 e12:=f12ok z2h.ok
end Go.Fw
namespace Go.Fw
variable {ρ : Type}
open Go.Proofs
def f43sig:Sig:=⟨[⟨.sl 3 (.int .i64),false,false⟩,⟨.sl 3 (.int .i64),false,false⟩],[⟨.bool,false,false⟩]⟩
def e43:z24:=⟨f43sig,none,λX=>((),((z1z.g X.1 X.2.1),()))⟩
def f43G:Gm:=z1n
def f43GOk:GOk Tryz.prog f43G:=GOk.nil
def f43lE:z00:=⟨[],[],[],[],[]⟩
def f43s0(a b:LI):St:=z1k f43sig.ps (a,(b,()))
def f43s1(a b:LI):St:=z16 [(0,.c (.sn 3 tI a none)),(1,.c (.sn 3 tI b none))] [] []
def f43l1:z00:=⟨[0,1],[],[],[],[]⟩
def f43s2(a b:LI)(d:Int):St:=z16 [(0,.c (.sn 3 tI a none)),(1,.c (.sn 3 tI b none)),(5,xi d)] [] []
def f43l2:z00:=⟨[0,1,5],[],[],[],[]⟩
def zsu :St:=z16 [] [] []
def f43l3:z00:=⟨[],[],[],[],[]⟩
def zkb(a:Bool):St:=z16 [(4,xB a)] [] []
def f43l4:z00:=⟨[4],[],[],[],[]⟩
def f43B:Nat->Option z00:=z17 [(0,f43l3),(1000000,f43l4)]
abbrev f43j{ρ:Type}(N n:Nat)(σ:St)(l:z00)(K:KT ρ):Option ρ:=z0p f43G tab f43B N (z2o 99 (z1q Tryz.f43) n) .n σ (z14 (some l) K)
def f43t1 N a b (K:KT ρ):f43j N 2 (f43s0 a b) f43l1 K =
 z1z.Z1 N a b (λa b=>K .nrm (f43s1 a b)):=by kernel_rfl
def f43t3 N a b (K:KT ρ):f43j N 5 (f43s1 a b) f43l1 K =
 z1z.Z3 N a b (λa b=>K .nrm (f43s1 a b)) (λc=>K .ret (zkb c)):=by kernel_rfl
def f43t6 N a b (K:KT ρ):f43j N 19 (f43s1 a b) f43l2 K =
 z1z.Z6 N a b (λa b c=>K .nrm (f43s2 a b c)):=by kernel_rfl
def f43t9 N a b c (K:KT ρ):f43j N 75 (f43s2 a b c) f43l2 K =
 z1z.Z9 N a b c (λa b c=>K .nrm (f43s2 a b c)) (K (.exit 0) zsu) (λd=>K .ret (zkb d)):=by kernel_rfl
def f43t8L N (K:KT ρ):=lp3 K (z1z.Z8L N (K (.exit 0) zsu) (λa=>K .ret (zkb a))) (λb c d k=>z1z.Z9 N b c d k (K (.exit 0) zsu) (λa=>K .ret (zkb a))) (λF b c d=>f43t9 N b c d _) (by kernel_rfl)
def f43t8 N a b c (K:KT ρ):=vL (f43s2 a b c) (f43t8L N (jK f43l3 K) N a b c) (by kernel_rfl)
def f43t7 N a b c (K:KT ρ):=vB 0 f43l3 K (z1z.Z7 N a b c (K .nrm zsu) (λd=>K .ret (zkb d))) (f43t8 N a b c _) (by kernel_rfl)
def f43t5 N a b (K:KT ρ):=vQ (λk=>z1z.Z6 N a b k) (f43t6 N a b _) (fx3 λa b c=>f43t7 N a b c K)
def f43t10 N  (K:KT ρ):f43j N 15 zsu f43lE K =
 z1z.Z10 N (λa=>K .ret (zkb a)):=by kernel_rfl
def f43t4 N a b (K:KT ρ):=vQ (λk=>z1z.Z5 N a b k (λc=>K .ret (zkb c))) (f43t5 N a b _) (f43t10 N K)
def f43t2 N a b (K:KT ρ):=vQ (λk=>z1z.Z3 N a b k (λc=>K .ret (zkb c))) (f43t3 N a b _) (fx2 λa b=>f43t4 N a b K)
def f43t0 N a b (K:KT ρ):=vQ (λk=>z1z.Z1 N a b k) (f43t1 N a b _) (fx2 λa b=>f43t2 N a b K)
def f43ok(h:z1z.Spec):z0a Tryz.prog 43 e43 :=
 okC Tryz.func43 z2q f43GOk (λN X K=>f43t0 N X.1 X.2.1 K) (by kernel_rfl) λX hb hp=>by
  obtain⟨a,b,_⟩:=X
  obtain⟨N,h⟩:=h a b hb.1 hb.2.1
  exact⟨N,Eq.trans (by kernel_rfl) (h N (Nat.le_refl N))⟩
def e43ok:z0a Tryz.prog 43 e43:=f43ok z1z.ok
end Go.Fw
namespace Go.Fw
variable {ρ : Type}
open Go.Proofs
def f13sig:Sig:=⟨[⟨.pair (.int .i64) (.pair (.int .i64) (.sl 3 (.int .i64))),true,false⟩,⟨.pair (.int .i64) (.pair (.int .i64) (.sl 3 (.int .i64))),true,false⟩],[⟨.bool,false,false⟩]⟩
def e13:z24:=⟨f13sig,none,λX=>((),((z38.g X.1 X.2.1),()))⟩
def f13G:Gm:=z3m z1n 43 e43
def f13GOk:GOk Tryz.prog f13G:=(GOk.nil).add e43ok (by kernel_rfl)
def f13lE:z00:=⟨[],[],[],[],[]⟩
def f13s0(a b:MT):St:=z1k f13sig.ps (a,(b,()))
def f13s1(a:Bool):St:=z16 [(4,xB a)] [] []
def f13l1:z00:=⟨[4],[],[],[],[]⟩
def f13B:Nat->Option z00:=z17 [(1000000,f13l1)]
abbrev f13j{ρ:Type}(N n:Nat)(σ:St)(l:z00)(K:KT ρ):Option ρ:=z0p f13G tab f13B N (z2o 99 (z1q Tryz.f13) n) .n σ (z14 (some l) K)
def f13t0 N a b (K:KT ρ):f13j N 1 (f13s0 a b) f13lE K =
 z38.Z0 N a b (λc=>K .ret (f13s1 c)):=by kernel_rfl
def f13ok(h:z38.Spec):z0a Tryz.prog 13 e13 :=
 okC Tryz.func13 z2q f13GOk (λN X K=>f13t0 N X.1 X.2.1 K) (by kernel_rfl) λX hb hp=>by
  obtain⟨a,b,_⟩:=X
  obtain⟨N,h⟩:=h a b hb.1 hb.2.1
  exact⟨N,Eq.trans (by kernel_rfl) (h N (Nat.le_refl N))⟩
def e13ok:z0a Tryz.prog 13 e13:=f13ok z38.ok
end Go.Fw
namespace Go.Fw
variable {ρ : Type}
open Go.Proofs
def f3sig:Sig:=⟨[⟨.pair (.int .i64) (.pair (.int .i64) (.sl 3 (.int .i64))),true,false⟩],[⟨.bool,false,false⟩]⟩
def e3:z24:=⟨f3sig,none,λX=>((),((z21.g X.1),()))⟩
def f3G:Gm:=z3m (z3m (z3m (z3m (z3m z1n 9 e9) 10 e10) 11 e11) 12 e12) 13 e13
def f3GOk:GOk Tryz.prog f3G:=(((((GOk.nil).add e9ok (by kernel_rfl)).add e10ok (by kernel_rfl)).add e11ok (by kernel_rfl)).add e12ok (by kernel_rfl)).add e13ok (by kernel_rfl)
def f3lE:z00:=⟨[],[],[],[],[]⟩
def f3s0(a:MT):St:=z1k f3sig.ps (a,())
def f3s1(a:Bool):St:=z16 [(2,xB a)] [] []
def f3l1:z00:=⟨[2],[],[],[],[]⟩
def f3B:Nat->Option z00:=z17 [(1000000,f3l1)]
abbrev f3j{ρ:Type}(N n:Nat)(σ:St)(l:z00)(K:KT ρ):Option ρ:=z0p f3G tab f3B N (z2o 99 (z1q Tryz.f3) n) .n σ (z14 (some l) K)
def f3t0 N a (K:KT ρ):f3j N 1 (f3s0 a) f3lE K =
 z21.Z0 N a (λb=>K .ret (f3s1 b)):=by kernel_rfl
def f3ok(h:z21.Spec):z0a Tryz.prog 3 e3 :=
 okC Tryz.func3 z2q f3GOk (λN X K=>f3t0 N X.1 K) (by kernel_rfl) λX hb hp=>by
  obtain⟨a,_⟩:=X
  obtain⟨N,h⟩:=h a hb.1
  exact⟨N,Eq.trans (by kernel_rfl) (h N (Nat.le_refl N))⟩
def e3ok:z0a Tryz.prog 3 e3:=f3ok z21.ok
end Go.Fw
