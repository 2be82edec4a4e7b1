/- The ties: the program's text comes to the plain functions. Nothing is assumed. -/
import Derived.Test.YtkjnhmjfdfiklaaGreatDoorPuFnMatrixTextb
import Derived.Test.YtkjnhmjfdfiklaaGreatDoorTiFnMatrixTexta
import Derived.Test.YtkjnhmjfdfiklaaGreatDoorPuFnMatrixTextc
import Derived.Test.YtkjnhmjfdfiklaaGreatDoorChecked
import Derived.Test.YtkjnhmjfdfiklaaGreatDoorFza
noncomputable section
set_option linter.defProp false
set_option linter.unusedVariables false
set_option linter.unusedSimpArgs false
set_option maxRecDepth 100000
namespace Go.Fw
variable {ρ : Type}
open Go.Proofs
def ztg:Sig:=⟨[⟨.pair (.int .i64) (.pair (.int .i64) (.sl 3 (.int .i64))),true,false⟩],[⟨.sl 3 (.int .i64),false,true⟩]⟩
def e103:z2j:=⟨ztg,(some λX=>z03.P X.1),λX=>((),((z03.g X.1),()))⟩
def f103G:Gm:=z3s (z3s z1v 83 e83) 143 e143
def f103GOk:GOk Tryz.prog f103G:=((GOk.nil).add e83ok (by kernel_rfl)).add e143ok (by kernel_rfl)
def f103lE:z01:=⟨[],[],[],[],[]⟩
def f103s0(a:MT):St:=z2e ztg.ps (a,())
def f103s1(a b:Int)(c:LI):St:=z1h [(1,xb 1)] [(1,(27,[yi a,yi b,.sn 3 tI c none]))] []
def f103l1:z01:=⟨[1],[1],[],[],[]⟩
def f103s2(a b:LI)(c d:Int)(e:LI):St:=z1h [(1,xb 1),(3,xo 1000192),(4,xo 1000256)] [(1,(27,[yi c,yi d,.sn 3 tI e none]))] [(1000192,(⟨3,.int .i64,a,true,false⟩:Row)),(1000256,(⟨3,.int .i64,b,true,false⟩:Row))]
def f103l2:z01:=⟨[1,3,4],[1],[],[],[(⟨false,3,0⟩,1000192),(⟨false,4,0⟩,1000256)]⟩
def f103s3(a b c:LI)(d e:Int)(f:LI):St:=z1h [(1,xb 1),(3,xo 1000192),(4,xo 1000256),(5,xo 1000320)] [(1,(27,[yi d,yi e,.sn 3 tI f none]))] [(1000192,(⟨3,.int .i64,a,true,false⟩:Row)),(1000256,(⟨3,.int .i64,b,true,false⟩:Row)),(1000320,(⟨3,.int .i64,c,true,false⟩:Row))]
def f103l3:z01:=⟨[1,3,4,5],[1],[],[],[(⟨false,3,0⟩,1000192),(⟨false,4,0⟩,1000256),(⟨false,5,0⟩,1000320)]⟩
def z6n(a b c:LI)(d e f g:Int)(h:LI):St:=z1h [(1,xb 1),(3,xo 1000192),(4,xo 1000256),(5,xo 1000320),(34,xi d),(35,xi e)] [(1,(27,[yi f,yi g,.sn 3 tI h none]))] [(1000192,(⟨3,.int .i64,a,true,false⟩:Row)),(1000256,(⟨3,.int .i64,b,true,false⟩:Row)),(1000320,(⟨3,.int .i64,c,true,false⟩:Row))]
def zch:z01:=⟨[1,3,4,5,34,35],[1],[],[],[(⟨false,3,0⟩,1000192),(⟨false,4,0⟩,1000256),(⟨false,5,0⟩,1000320)]⟩
def f103s5(a b c:LI)(d e:Int)(f:Bool)(g h:Int)(i:LI):St:=z1h [(1,xb 1),(3,xo 1000192),(4,xo 1000256),(5,xo 1000320),(34,xi d),(35,xi e),(36,xB f)] [(1,(27,[yi g,yi h,.sn 3 tI i none]))] [(1000192,(⟨3,.int .i64,a,true,false⟩:Row)),(1000256,(⟨3,.int .i64,b,true,false⟩:Row)),(1000320,(⟨3,.int .i64,c,true,false⟩:Row))]
def f103l5:z01:=⟨[1,3,4,5,34,35,36],[1],[],[],[(⟨false,3,0⟩,1000192),(⟨false,4,0⟩,1000256),(⟨false,5,0⟩,1000320)]⟩
def zg8(a b c:LI)(d e f g h:Int)(i:LI):St:=z1h [(1,xb 1),(3,xo 1000192),(4,xo 1000256),(5,xo 1000320),(6,xi d),(34,xi e),(35,xi f)] [(1,(27,[yi g,yi h,.sn 3 tI i none]))] [(1000192,(⟨3,.int .i64,a,true,false⟩:Row)),(1000256,(⟨3,.int .i64,b,true,false⟩:Row)),(1000320,(⟨3,.int .i64,c,true,false⟩:Row))]
def ztk:z01:=⟨[1,3,4,5,6,34,35],[1],[],[],[(⟨false,3,0⟩,1000192),(⟨false,4,0⟩,1000256),(⟨false,5,0⟩,1000320)]⟩
def zcf(a b c d:LI)(e f g h:Int)(i:LI):St:=z1h [(1,xb 1),(3,xo 1000192),(4,xo 1000256),(5,xo 1000320),(7,xo 1000448),(34,xi e),(35,xi f)] [(1,(27,[yi g,yi h,.sn 3 tI i none]))] [(1000192,(⟨3,.int .i64,a,true,false⟩:Row)),(1000256,(⟨3,.int .i64,b,true,false⟩:Row)),(1000320,(⟨3,.int .i64,c,true,false⟩:Row)),(1000448,(⟨3,.int .i64,d,true,false⟩:Row))]
def zo0:z01:=⟨[1,3,4,5,7,34,35],[1],[],[],[(⟨false,3,0⟩,1000192),(⟨false,4,0⟩,1000256),(⟨false,5,0⟩,1000320),(⟨false,7,0⟩,1000448)]⟩
def z6z(a b c d:LI)(e f g h i:Int)(j:LI):St:=z1h [(1,xb 1),(3,xo 1000192),(4,xo 1000256),(5,xo 1000320),(7,xo 1000448),(8,xi e),(34,xi f),(35,xi g)] [(1,(27,[yi h,yi i,.sn 3 tI j none]))] [(1000192,(⟨3,.int .i64,a,true,false⟩:Row)),(1000256,(⟨3,.int .i64,b,true,false⟩:Row)),(1000320,(⟨3,.int .i64,c,true,false⟩:Row)),(1000448,(⟨3,.int .i64,d,true,false⟩:Row))]
def zcg:z01:=⟨[1,3,4,5,7,8,34,35],[1],[],[],[(⟨false,3,0⟩,1000192),(⟨false,4,0⟩,1000256),(⟨false,5,0⟩,1000320),(⟨false,7,0⟩,1000448)]⟩
def f103s9(a b c d:LI)(e f g h i j:Int)(l:LI):St:=z1h [(1,xb 1),(3,xo 1000192),(4,xo 1000256),(5,xo 1000320),(7,xo 1000448),(8,xi e),(9,xi f),(34,xi g),(35,xi h)] [(1,(27,[yi i,yi j,.sn 3 tI l none]))] [(1000192,(⟨3,.int .i64,a,true,false⟩:Row)),(1000256,(⟨3,.int .i64,b,true,false⟩:Row)),(1000320,(⟨3,.int .i64,c,true,false⟩:Row)),(1000448,(⟨3,.int .i64,d,true,false⟩:Row))]
def f103l9:z01:=⟨[1,3,4,5,7,8,9,34,35],[1],[],[],[(⟨false,3,0⟩,1000192),(⟨false,4,0⟩,1000256),(⟨false,5,0⟩,1000320),(⟨false,7,0⟩,1000448)]⟩
def z6c(a b c d:LI)(e f g h i j l m:Int)(o:LI):St:=z1h [(1,xb 1),(3,xo 1000192),(4,xo 1000256),(5,xo 1000320),(7,xo 1000448),(8,xi e),(9,xi f),(34,xi g),(35,xi h),(62,xi i),(63,xi j)] [(1,(27,[yi l,yi m,.sn 3 tI o none]))] [(1000192,(⟨3,.int .i64,a,true,false⟩:Row)),(1000256,(⟨3,.int .i64,b,true,false⟩:Row)),(1000320,(⟨3,.int .i64,c,true,false⟩:Row)),(1000448,(⟨3,.int .i64,d,true,false⟩:Row))]
def zbp:z01:=⟨[1,3,4,5,7,8,9,34,35,62,63],[1],[],[],[(⟨false,3,0⟩,1000192),(⟨false,4,0⟩,1000256),(⟨false,5,0⟩,1000320),(⟨false,7,0⟩,1000448)]⟩
def ztj(a b c d:LI)(e f g h i j:Int)(l:Bool)(m o:Int)(p:LI):St:=z1h [(1,xb 1),(3,xo 1000192),(4,xo 1000256),(5,xo 1000320),(7,xo 1000448),(8,xi e),(9,xi f),(34,xi g),(35,xi h),(62,xi i),(63,xi j),(64,xB l)] [(1,(27,[yi m,yi o,.sn 3 tI p none]))] [(1000192,(⟨3,.int .i64,a,true,false⟩:Row)),(1000256,(⟨3,.int .i64,b,true,false⟩:Row)),(1000320,(⟨3,.int .i64,c,true,false⟩:Row)),(1000448,(⟨3,.int .i64,d,true,false⟩:Row))]
def f103l11:z01:=⟨[1,3,4,5,7,8,9,34,35,62,63,64],[1],[],[],[(⟨false,3,0⟩,1000192),(⟨false,4,0⟩,1000256),(⟨false,5,0⟩,1000320),(⟨false,7,0⟩,1000448)]⟩
def zti(a b c d:LI)(e f g h i j l m o:Int)(p:LI):St:=z1h [(1,xb 1),(3,xo 1000192),(4,xo 1000256),(5,xo 1000320),(7,xo 1000448),(8,xi e),(9,xi f),(10,xi g),(34,xi h),(35,xi i),(62,xi j),(63,xi l)] [(1,(27,[yi m,yi o,.sn 3 tI p none]))] [(1000192,(⟨3,.int .i64,a,true,false⟩:Row)),(1000256,(⟨3,.int .i64,b,true,false⟩:Row)),(1000320,(⟨3,.int .i64,c,true,false⟩:Row)),(1000448,(⟨3,.int .i64,d,true,false⟩:Row))]
def f103l12:z01:=⟨[1,3,4,5,7,8,9,10,34,35,62,63],[1],[],[],[(⟨false,3,0⟩,1000192),(⟨false,4,0⟩,1000256),(⟨false,5,0⟩,1000320),(⟨false,7,0⟩,1000448)]⟩
def zhs(a b c d:LI)(e f g h i j l m o p q:Int)(r:LI):St:=z1h [(1,xb 1),(3,xo 1000192),(4,xo 1000256),(5,xo 1000320),(7,xo 1000448),(8,xi e),(9,xi f),(10,xi g),(11,xi h),(12,xi i),(34,xi j),(35,xi l),(62,xi m),(63,xi o)] [(1,(27,[yi p,yi q,.sn 3 tI r none]))] [(1000192,(⟨3,.int .i64,a,true,false⟩:Row)),(1000256,(⟨3,.int .i64,b,true,false⟩:Row)),(1000320,(⟨3,.int .i64,c,true,false⟩:Row)),(1000448,(⟨3,.int .i64,d,true,false⟩:Row))]
def zto:z01:=⟨[1,3,4,5,7,8,9,10,11,12,34,35,62,63],[1],[],[],[(⟨false,3,0⟩,1000192),(⟨false,4,0⟩,1000256),(⟨false,5,0⟩,1000320),(⟨false,7,0⟩,1000448)]⟩
def z9z(a b c d:LI)(e f g h i:Int)(j:LI):St:=z1h [(1,xb 1),(3,xo 1000192),(4,xo 1000256),(5,xo 1000320),(7,xo 1000448),(16,xi e),(34,xi f),(35,xi g)] [(1,(27,[yi h,yi i,.sn 3 tI j none]))] [(1000192,(⟨3,.int .i64,a,true,false⟩:Row)),(1000256,(⟨3,.int .i64,b,true,false⟩:Row)),(1000320,(⟨3,.int .i64,c,true,false⟩:Row)),(1000448,(⟨3,.int .i64,d,true,false⟩:Row))]
def zht:z01:=⟨[1,3,4,5,7,16,34,35],[1],[],[],[(⟨false,3,0⟩,1000192),(⟨false,4,0⟩,1000256),(⟨false,5,0⟩,1000320),(⟨false,7,0⟩,1000448)]⟩
def zhr(a b c d:LI)(e f g h i j l:Int)(m:LI):St:=z1h [(1,xb 1),(3,xo 1000192),(4,xo 1000256),(5,xo 1000320),(7,xo 1000448),(16,xi e),(34,xi f),(35,xi g),(158,xo 1000448),(159,xi h),(160,xi i)] [(1,(27,[yi j,yi l,.sn 3 tI m none]))] [(1000192,(⟨3,.int .i64,a,true,false⟩:Row)),(1000256,(⟨3,.int .i64,b,true,false⟩:Row)),(1000320,(⟨3,.int .i64,c,true,false⟩:Row)),(1000448,(⟨3,.int .i64,d,true,false⟩:Row))]
def ztn:z01:=⟨[1,3,4,5,7,16,34,35,158,159,160],[1],[],[],[(⟨false,3,0⟩,1000192),(⟨false,4,0⟩,1000256),(⟨false,5,0⟩,1000320),(⟨false,7,0⟩,1000448)]⟩
def zth(a b c d:LI)(e f g h i j:Int)(l:LI):St:=z1h [(1,xb 1),(3,xo 1000192),(4,xo 1000256),(5,xo 1000320),(7,xo 1000448),(16,xi e),(19,xi f),(34,xi g),(35,xi h)] [(1,(27,[yi i,yi j,.sn 3 tI l none]))] [(1000192,(⟨3,.int .i64,a,true,false⟩:Row)),(1000256,(⟨3,.int .i64,b,true,false⟩:Row)),(1000320,(⟨3,.int .i64,c,true,false⟩:Row)),(1000448,(⟨3,.int .i64,d,true,false⟩:Row))]
def f103l16:z01:=⟨[1,3,4,5,7,16,19,34,35],[1],[],[],[(⟨false,3,0⟩,1000192),(⟨false,4,0⟩,1000256),(⟨false,5,0⟩,1000320),(⟨false,7,0⟩,1000448)]⟩
def zhq(a b c d:LI)(e f g h i j l m:Int)(o:LI):St:=z1h [(1,xb 1),(3,xo 1000192),(4,xo 1000256),(5,xo 1000320),(7,xo 1000448),(16,xi e),(19,xi f),(34,xi g),(35,xi h),(178,xo 1000448),(179,xi i),(180,xi j)] [(1,(27,[yi l,yi m,.sn 3 tI o none]))] [(1000192,(⟨3,.int .i64,a,true,false⟩:Row)),(1000256,(⟨3,.int .i64,b,true,false⟩:Row)),(1000320,(⟨3,.int .i64,c,true,false⟩:Row)),(1000448,(⟨3,.int .i64,d,true,false⟩:Row))]
def ztm:z01:=⟨[1,3,4,5,7,16,19,34,35,178,179,180],[1],[],[],[(⟨false,3,0⟩,1000192),(⟨false,4,0⟩,1000256),(⟨false,5,0⟩,1000320),(⟨false,7,0⟩,1000448)]⟩
def zef(a b c d:LI)(e f g h i:Int)(j:LI):St:=z1h [(1,xb 1),(3,xo 1000192),(4,xo 1000256),(5,xo 1000320),(7,xo 1000448),(19,xi e),(34,xi f),(35,xi g)] [(1,(27,[yi h,yi i,.sn 3 tI j none]))] [(1000192,(⟨3,.int .i64,a,true,false⟩:Row)),(1000256,(⟨3,.int .i64,b,true,false⟩:Row)),(1000320,(⟨3,.int .i64,c,true,false⟩:Row)),(1000448,(⟨3,.int .i64,d,true,false⟩:Row))]
def zlz:z01:=⟨[1,3,4,5,7,19,34,35],[1],[],[],[(⟨false,3,0⟩,1000192),(⟨false,4,0⟩,1000256),(⟨false,5,0⟩,1000320),(⟨false,7,0⟩,1000448)]⟩
def zhp(a b c d:LI)(e f g h i j l:Int)(m:LI):St:=z1h [(1,xb 1),(3,xo 1000192),(4,xo 1000256),(5,xo 1000320),(19,xi e),(34,xi f),(35,xi g),(205,xo 1013120),(206,xi h),(207,xi i)] [(1,(27,[yi j,yi l,.sn 3 tI m none]))] [(1000192,(⟨3,.int .i64,a,true,false⟩:Row)),(1000256,(⟨3,.int .i64,b,true,false⟩:Row)),(1000320,(⟨3,.int .i64,c,true,false⟩:Row)),(1013120,(⟨3,.int .i64,d,true,false⟩:Row))]
def ztl:z01:=⟨[1,3,4,5,19,34,35,205,206,207],[1],[],[],[(⟨false,3,0⟩,1000192),(⟨false,4,0⟩,1000256),(⟨false,5,0⟩,1000320),(⟨false,205,0⟩,1013120)]⟩
def zbo(a:LI):St:=z1h [(5,xo 1000320)] [] [(1000320,(⟨3,.int .i64,a,true,false⟩:Row))]
def zly:z01:=⟨[5],[],[],[],[(⟨false,5,0⟩,1000320)]⟩
def z3y(a:LI):St:=z1h [(2,xo 1001000128)] [] [(1001000128,(⟨3,.int .i64,a,true,true⟩:Row))]
def f103l21:z01:=⟨[2],[],[⟨⟨false,2,0⟩,30000000,3,.int .i64,true⟩],[],[(⟨false,2,0⟩,1001000128)]⟩
def f103B:Nat->Option z01:=z1i [(5,zbp),(4,zcg),(3,zcg),(2,zo0),(6,zht),(8,zlz),(10,zch),(1,zch),(0,zly),(1000000,f103l21)]
abbrev z4o{ρ:Type}(N n:Nat)(σ:St)(l:z01)(K:KT ρ):Option ρ:=z0w f103G tab f103B N (z2o 99 (z1x Tryz.f103) n) .n σ (z1f (some l) K)
def f103t1 N a (K:KT ρ):z4o N 2 (f103s0 a) f103l1 K =
 z03.Z1 N a (λb c d=>K .nrm (f103s1 b c d)):=by kernel_rfl
def f103t3 N a b c (K:KT ρ):z4o N 5 (f103s1 a b c) f103l2 K =
 z03.Z3 N a b c (λd e a b c=>K .nrm (f103s2 d e a b c)):=by kernel_rfl
def f103t5 N a b c d e (K:KT ρ):z4o N 11 (f103s2 a b c d e) f103l3 K =
 z03.Z5 N a b c d e (λa b f c d e=>K .nrm (f103s3 a b f c d e)):=by kernel_rfl
def f103t8 N a b c d e f (K:KT ρ):z4o N 39 (f103s3 a b c d e f) zch K =
 z03.Z8 N a b c d e f (λa b c g h d e f=>K .nrm (z6n a b c g h d e f)):=by kernel_rfl
def f103t12 N a b c d e f g h (K:KT ρ):z4o N 279 (z6n a b c d e f g h) f103l5 K =
 z03.Z12 N a b c d e f g h (λa b c d e i f g h=>K .nrm (f103s5 a b c d e i f g h)):=by kernel_rfl
def f103t14 N b c a d e i f g h (K:KT ρ):z4o N 663 (f103s5 b c a d e i f g h) zch K =
 z03.Z14 N b c a d e i f g h (λb c a d e f g h=>K .nrm (z6n b c a d e f g h)) (λa=>K (.exit 0) (zbo a)):=by kernel_rfl
def f103t18 N a b c d e f g h (K:KT ρ):z4o N 4503 (z6n a b c d e f g h) ztk K =
 z03.Z18 N a b c d e f g h (λa b c i d e f g h=>K .nrm (zg8 a b c i d e f g h)):=by kernel_rfl
def f103t20 N a b c i d e f g h (K:KT ρ):z4o N 10647 (zg8 a b c i d e f g h) ztk K =
 z03.Z20 N a b c i d e f g h (λa b c i d e f g h=>K .nrm (zg8 a b c i d e f g h)) (λa b c d e f g h=>K (.exit 1) (z6n a b c d e f g h)):=by kernel_rfl
def f103t22 N a b c d e f g h i (K:KT ρ):z4o N 22935 (zg8 a b c d e f g h i) ztk K =
 z03.Z22 N a b c d e f g h i (λa b c d e f g h i=>K .nrm (zg8 a b c d e f g h i)):=by kernel_rfl
def f103t24 N a b c i d e f g h (K:KT ρ):z4o N 47511 (zg8 a b c i d e f g h) zo0 K =
 z03.Z24 N a b c i d e f g h (λa b c j d e f g h=>K .nrm (zcf a b c j d e f g h)):=by kernel_rfl
def f103t27 N a b c d e f g h i (K:KT ρ):z4o N 162199 (zcf a b c d e f g h i) zcg K =
 z03.Z27 N a b c d e f g h i (λa b c d j e f g h i=>K .nrm (z6z a b c d j e f g h i)):=by kernel_rfl
def f103t31 N a b c d j e f g h i (K:KT ρ):z4o N 1145239 (z6z a b c d j e f g h i) zcg K =
 z03.Z31 N a b c d j e f g h i (λa b c d j e f g h i=>K .nrm (z6z a b c d j e f g h i)) (λa b c d e f g h i=>K (.exit 2) (zcf a b c d e f g h i)):=by kernel_rfl
def f103t35 N a b c d e f g h i j (K:KT ρ):z4o N 9009559 (z6z a b c d e f g h i j) f103l9 K =
 z03.Z35 N a b c d e f g h i j (λa b c d e l f g h i j=>K .nrm (f103s9 a b c d e l f g h i j)):=by kernel_rfl
def f103t37 N a b c d e f g h i j l (K:KT ρ):z4o N 21592471 (f103s9 a b c d e f g h i j l) zbp K =
 z03.Z37 N a b c d e f g h i j l (λa b c d e f g h m o i j l=>K .nrm (z6c a b c d e f g h m o i j l)):=by kernel_rfl
def f103t41 N a b c d e f g h i j l m o (K:KT ρ):z4o N 147421591 (z6c a b c d e f g h i j l m o) f103l11 K =
 z03.Z41 N a b c d e f g h i j l m o (λa b c d e f g h i j p l m o=>K .nrm (ztj a b c d e f g h i j p l m o)):=by kernel_rfl
def f103t43 N a b c d e l f g m o p h i j (K:KT ρ):z4o N 348748183 (ztj a b c d e l f g m o p h i j) zbp K =
 z03.Z43 N a b c d e l f g m o p h i j (λa b c d e l f g m o h i j=>K .nrm (z6c a b c d e l f g m o h i j)) (λa b c d e f g h i j=>K (.exit 4) (z6z a b c d e f g h i j)):=by kernel_rfl
def f103t47 N a b c d e f g h i j l m o (K:KT ρ):z4o N 2362014103 (z6c a b c d e f g h i j l m o) f103l12 K =
 z03.Z47 N a b c d e f g h i j l m o (λa b c d e f p g h i j l m o=>K .nrm (zti a b c d e f p g h i j l m o)):=by kernel_rfl
def f103t49 N a b c d e f g h i j l m o p (K:KT ρ):z4o N 5583239575 (zti a b c d e f g h i j l m o p) zto K =
 z03.Z49 N a b c d e f g h i j l m o p (λa b c d e f g q r h i j l m o p=>K .nrm (zhs a b c d e f g q r h i j l m o p)):=by kernel_rfl
def f103t51 N a b c d e f p q r g h i j l m o (K:KT ρ):z4o N 12025690519 (zhs a b c d e f p q r g h i j l m o) zto K =
 z03.Z51 N a b c d e f p q r g h i j l m o (λa b c d e f p q r g h i j l m o=>K .nrm (zhs a b c d e f p q r g h i j l m o)) (λa b c d e f g h i j l m o=>K (.exit 5) (z6c a b c d e f g h i j l m o)):=by kernel_rfl
def f103t52 N a b c d e f p q r g h i j l m o (K:KT ρ):z4o N 16320657815 (zhs a b c d e f p q r g h i j l m o) zbp K =
 z03.Z52 N a b c d e f p q r g h i j l m o (λa b c d e f g h i j l m o=>K .nrm (z6c a b c d e f g h i j l m o)) (λs=>K .ret (z3y s)):=by kernel_rfl
def f103t50 N a b c d e f p q r g h i j l m o (K:KT ρ):=vQ (λk=>z03.Z51 N a b c d e f p q r g h i j l m o k (λa b c d e f g h i j l m o=>K (.exit 5) (z6c a b c d e f g h i j l m o))) (f103t51 N a b c d e f p q r g h i j l m o _) (fx16 λa b c d e f p q r g h i j l m o=>f103t52 N a b c d e f p q r g h i j l m o K)
def f103t48 N a b c d e f g h i j l m o p (K:KT ρ):=vQ (λk=>z03.Z49 N a b c d e f g h i j l m o p k) (f103t49 N a b c d e f g h i j l m o p _) (fx16 λa b c d e f g q r h i j l m o p=>f103t50 N a b c d e f g q r h i j l m o p K)
def f103t46 N a b c d e f g h i j l m o (K:KT ρ):=vQ (λk=>z03.Z47 N a b c d e f g h i j l m o k) (f103t47 N a b c d e f g h i j l m o _) (fx14 λa b c d e f p g h i j l m o=>f103t48 N a b c d e f p g h i j l m o K)
def f103t45 N a b c d e f g h i j l m o (K:KT ρ):=vB 5 zbp K (z03.Z45 N a b c d e f g h i j l m o (λa b c d e f g h i j l m o=>K .nrm (z6c a b c d e f g h i j l m o)) (λp=>K .ret (z3y p))) (f103t46 N a b c d e f g h i j l m o _) (by kernel_rfl)
def f103t53 N a b c d e f g h i j l m o (K:KT ρ):z4o N 1019836823 (z6c a b c d e f g h i j l m o) zbp K =
 z03.Z53 N a b c d e f g h i j l m o (λa b c d e f g h i j l m o=>K .nrm (z6c a b c d e f g h i j l m o)):=by kernel_rfl
def f103t44 N a b c d e f g h i j l m o (K:KT ρ):=vQ (λk=>z03.Z45 N a b c d e f g h i j l m o k (λp=>K .ret (z3y p))) (f103t45 N a b c d e f g h i j l m o _) (fx13 λa b c d e f g h i j l m o=>f103t53 N a b c d e f g h i j l m o K)
def f103t42 N a b c d e l f g m o p h i j (K:KT ρ):=vQ (λk=>z03.Z43 N a b c d e l f g m o p h i j k (λa b c d e f g h i j=>K (.exit 4) (z6z a b c d e f g h i j))) (f103t43 N a b c d e l f g m o p h i j _) (fx13 λa b c d e l f g m o h i j=>f103t44 N a b c d e l f g m o h i j K)
def f103t40 N a b c d e f g h i j l m o (K:KT ρ):=vQ (λk=>z03.Z41 N a b c d e f g h i j l m o k) (f103t41 N a b c d e f g h i j l m o _) (fx14 λa b c d e f g h i j p l m o=>f103t42 N a b c d e f g h i j p l m o K)
def f103t39L N (K:KT ρ):=lp13 K (z03.Z39L N (λa b c d e f g h i j=>K (.exit 4) (z6z a b c d e f g h i j)) (λl=>K .ret (z3y l))) (λa b c d e m f g o p h i j k=>z03.Z40 N a b c d e m f g o p h i j k (λa b c d e f g h i j=>K (.exit 4) (z6z a b c d e f g h i j)) (λl=>K .ret (z3y l))) (λF a b c d e m f g o p h i j=>f103t40 N a b c d e m f g o p h i j _) (by kernel_rfl)
def f103t39 N a b c d e f g h i j l m o (K:KT ρ):=vL (z6c a b c d e f g h i j l m o) (f103t39L N (jK zcg K) N a b c d e f g h i j l m o) (by kernel_rfl)
def f103t38 N a b c d e l f g m o h i j (K:KT ρ):=vB 4 zcg K (z03.Z38 N a b c d e l f g m o h i j (λa b c d e f g h i j=>K .nrm (z6z a b c d e f g h i j)) (λp=>K .ret (z3y p))) (f103t39 N a b c d e l f g m o h i j _) (by kernel_rfl)
def f103t36 N a b c d e f g h i j l (K:KT ρ):=vQ (λk=>z03.Z37 N a b c d e f g h i j l k) (f103t37 N a b c d e f g h i j l _) (fx13 λa b c d e f g h m o i j l=>f103t38 N a b c d e f g h m o i j l K)
def f103t34 N a b c d e f g h i j (K:KT ρ):=vQ (λk=>z03.Z35 N a b c d e f g h i j k) (f103t35 N a b c d e f g h i j _) (zq7 λa b c d e l f g h i j=>f103t36 N a b c d e l f g h i j K)
def f103t33 N a b c d e f g h i j (K:KT ρ):=vB 3 zcg K (z03.Z33 N a b c d e f g h i j (λa b c d e f g h i j=>K .nrm (z6z a b c d e f g h i j)) (λl=>K .ret (z3y l))) (f103t34 N a b c d e f g h i j _) (by kernel_rfl)
def f103t54 N a b c d e f g h i j (K:KT ρ):z4o N 3766679 (z6z a b c d e f g h i j) zcg K =
 z03.Z54 N a b c d e f g h i j (λa b c d e f g h i j=>K .nrm (z6z a b c d e f g h i j)):=by kernel_rfl
def f103t32 N a b c d e f g h i j (K:KT ρ):=vQ (λk=>z03.Z33 N a b c d e f g h i j k (λl=>K .ret (z3y l))) (f103t33 N a b c d e f g h i j _) (zf1 λa b c d e f g h i j=>f103t54 N a b c d e f g h i j K)
def f103t30 N a b c d j e f g h i (K:KT ρ):=vQ (λk=>z03.Z31 N a b c d j e f g h i k (λa b c d e f g h i=>K (.exit 2) (zcf a b c d e f g h i))) (f103t31 N a b c d j e f g h i _) (zf1 λa b c d j e f g h i=>f103t32 N a b c d j e f g h i K)
def f103t29L N (K:KT ρ):=lp10 K (z03.Z29L N (λa b c d e f g h i=>K (.exit 2) (zcf a b c d e f g h i)) (λj=>K .ret (z3y j))) (λa b c d l e f g h i k=>z03.Z30 N a b c d l e f g h i k (λa b c d e f g h i=>K (.exit 2) (zcf a b c d e f g h i)) (λj=>K .ret (z3y j))) (λF a b c d l e f g h i=>f103t30 N a b c d l e f g h i _) (by kernel_rfl)
def f103t29 N a b c d e f g h i j (K:KT ρ):=vL (z6z a b c d e f g h i j) (f103t29L N (jK zo0 K) N a b c d e f g h i j) (by kernel_rfl)
def f103t28 N a b c d j e f g h i (K:KT ρ):=vB 2 zo0 K (z03.Z28 N a b c d j e f g h i (λa b c d e f g h i=>K .nrm (zcf a b c d e f g h i)) (λl=>K .ret (z3y l))) (f103t29 N a b c d j e f g h i _) (by kernel_rfl)
def f103t26 N a b c d e f g h i (K:KT ρ):=vQ (λk=>z03.Z27 N a b c d e f g h i k) (f103t27 N a b c d e f g h i _) (zf1 λa b c d j e f g h i=>f103t28 N a b c d j e f g h i K)
def f103t56 N a b c d e f g h i (K:KT ρ):z4o N 194967 (zcf a b c d e f g h i) zht K =
 z03.Z56 N a b c d e f g h i (λa b c d j e f g h i=>K .nrm (z9z a b c d j e f g h i)):=by kernel_rfl
def f103t59 N a b c d e f g h i j (K:KT ρ):z4o N 653719 (z9z a b c d e f g h i j) ztn K =
 z03.Z59 N a b c d e f g h i j (λa b c d e f g l m h i j=>K .nrm (zhr a b c d e f g l m h i j)):=by kernel_rfl
def f103t62 N a b c d e f g l m h i j (K:KT ρ):z4o N 2488727 (zhr a b c d e f g l m h i j) ztn K =
 z03.Z62 N a b c d e f g l m h i j (λa b c d e f g l m h i j=>K .nrm (zhr a b c d e f g l m h i j)) (λa b c d e f g h i j=>K (.exit 6) (z9z a b c d e f g h i j)):=by kernel_rfl
def f103t61L N (K:KT ρ):=lp12 K (z03.Z61L N (λa b c d e f g h i j=>K (.exit 6) (z9z a b c d e f g h i j))) (λa b c d e f g l m h i j k=>z03.Z62 N a b c d e f g l m h i j k (λa b c d e f g h i j=>K (.exit 6) (z9z a b c d e f g h i j))) (λF a b c d e f g l m h i j=>f103t62 N a b c d e f g l m h i j _) (by kernel_rfl)
def f103t61 N a b c d e f g h i j l m (K:KT ρ):=vL (zhr a b c d e f g h i j l m) (f103t61L N (jK zht K) N a b c d e f g h i j l m) (by kernel_rfl)
def f103t60 N a b c d e f g l m h i j (K:KT ρ):=vB 6 zht K (z03.Z60 N a b c d e f g l m h i j (λa b c d e f g h i j=>K .nrm (z9z a b c d e f g h i j))) (f103t61 N a b c d e f g l m h i j _) (by kernel_rfl)
def f103t58 N a b c d e f g h i j (K:KT ρ):=vQ (λk=>z03.Z59 N a b c d e f g h i j k) (f103t59 N a b c d e f g h i j _) (fx12 λa b c d e f g l m h i j=>f103t60 N a b c d e f g l m h i j K)
def f103t64 N a b c d e f g h i j (K:KT ρ):z4o N 784791 (z9z a b c d e f g h i j) f103l16 K =
 z03.Z64 N a b c d e f g h i j (λa b c d e l f g h i j=>K .nrm (zth a b c d e l f g h i j)):=by kernel_rfl
def f103t67 N a b c d e f g h i j l (K:KT ρ):z4o N 2619799 (zth a b c d e f g h i j l) ztm K =
 z03.Z67 N a b c d e f g h i j l (λa b c d e f g h m o i j l=>K .nrm (zhq a b c d e f g h m o i j l)):=by kernel_rfl
def f103t70 N a b c d l e f g m o h i j (K:KT ρ):z4o N 9959831 (zhq a b c d l e f g m o h i j) ztm K =
 z03.Z70 N a b c d l e f g m o h i j (λa b c d l e f g m o h i j=>K .nrm (zhq a b c d l e f g m o h i j)) (λa b c d e f g h i j=>K (.exit 8) (zef a b c d e f g h i j)):=by kernel_rfl
def f103t69L N (K:KT ρ):=lp13 K (z03.Z69L N (λa b c d e f g h i j=>K (.exit 8) (zef a b c d e f g h i j))) (λa b c d l e f g m o h i j k=>z03.Z70 N a b c d l e f g m o h i j k (λa b c d e f g h i j=>K (.exit 8) (zef a b c d e f g h i j))) (λF a b c d l e f g m o h i j=>f103t70 N a b c d l e f g m o h i j _) (by kernel_rfl)
def f103t69 N a b c d e f g h i j l m o (K:KT ρ):=vL (zhq a b c d e f g h i j l m o) (f103t69L N (jK zlz K) N a b c d e f g h i j l m o) (by kernel_rfl)
def f103t68 N a b c d l e f g m o h i j (K:KT ρ):=vB 8 zlz K (z03.Z68 N a b c d l e f g m o h i j (λa b c d e f g h i j=>K .nrm (zef a b c d e f g h i j))) (f103t69 N a b c d l e f g m o h i j _) (by kernel_rfl)
def f103t66 N a b c d e f g h i j l (K:KT ρ):=vQ (λk=>z03.Z67 N a b c d e f g h i j l k) (f103t67 N a b c d e f g h i j l _) (fx13 λa b c d e f g h m o i j l=>f103t68 N a b c d e f g h m o i j l K)
def f103t72 N a b c j d e f g h i (K:KT ρ):z4o N 3144087 (zef a b c j d e f g h i) ztl K =
 z03.Z72 N a b c j d e f g h i (λa b c l d e f m o g h i=>K .nrm (zhp a b c l d e f m o g h i)):=by kernel_rfl
def f103t75 N a b c i j d e l m f g h (K:KT ρ):z4o N 10484119 (zhp a b c i j d e l m f g h) ztl K =
 z03.Z75 N a b c i j d e l m f g h (λa b c i j d e l m f g h=>K .nrm (zhp a b c i j d e l m f g h)) (λa b c d e f g h=>K (.exit 10) (z6n a b c d e f g h)):=by kernel_rfl
def f103t74L N (K:KT ρ):=lp12 K (z03.Z74L N (λa b c d e f g h=>K (.exit 10) (z6n a b c d e f g h))) (λa b c i j d e l m f g h k=>z03.Z75 N a b c i j d e l m f g h k (λa b c d e f g h=>K (.exit 10) (z6n a b c d e f g h))) (λF a b c i j d e l m f g h=>f103t75 N a b c i j d e l m f g h _) (by kernel_rfl)
def f103t74 N a b c d e f g h i j l m (K:KT ρ):=vL (zhp a b c d e f g h i j l m) (f103t74L N (jK zch K) N a b c d e f g h i j l m) (by kernel_rfl)
def f103t73 N a b c i j d e l m f g h (K:KT ρ):=vB 10 zch K (z03.Z73 N a b c i j d e l m f g h (λa b c d e f g h=>K .nrm (z6n a b c d e f g h))) (f103t74 N a b c i j d e l m f g h _) (by kernel_rfl)
def f103t71 N a b c j d e f g h i (K:KT ρ):=vQ (λk=>z03.Z72 N a b c j d e f g h i k) (f103t72 N a b c j d e f g h i _) (fx12 λa b c l d e f m o g h i=>f103t73 N a b c l d e f m o g h i K)
def f103t65 N a b c d l e f g h i j (K:KT ρ):=vQ (λk=>z03.Z66 N a b c d l e f g h i j k) (f103t66 N a b c d l e f g h i j _) (zf1 λa b c d e f g h i j=>f103t71 N a b c d e f g h i j K)
def f103t63 N a b c d e f g h i j (K:KT ρ):=vQ (λk=>z03.Z64 N a b c d e f g h i j k) (f103t64 N a b c d e f g h i j _) (zq7 λa b c d e l f g h i j=>f103t65 N a b c d e l f g h i j K)
def f103t57 N a b c d e f g h i j (K:KT ρ):=vQ (λk=>z03.Z58 N a b c d e f g h i j k) (f103t58 N a b c d e f g h i j _) (zf1 λa b c d e f g h i j=>f103t63 N a b c d e f g h i j K)
def f103t55 N a b c d e f g h i (K:KT ρ):=vQ (λk=>z03.Z56 N a b c d e f g h i k) (f103t56 N a b c d e f g h i _) (zf1 λa b c d j e f g h i=>f103t57 N a b c d j e f g h i K)
def f103t25 N a b c d e f g h i (K:KT ρ):=vQ (λk=>z03.Z26 N a b c d e f g h i k (λj=>K .ret (z3y j))) (f103t26 N a b c d e f g h i _) (fx9 λa b c d e f g h i=>f103t55 N a b c d e f g h i K)
def f103t23 N a b c i d e f g h (K:KT ρ):=vQ (λk=>z03.Z24 N a b c i d e f g h k) (f103t24 N a b c i d e f g h _) (fx9 λa b c j d e f g h=>f103t25 N a b c j d e f g h K)
def f103t21 N a b c d e f g h i (K:KT ρ):=vQ (λk=>z03.Z22 N a b c d e f g h i k) (f103t22 N a b c d e f g h i _) (fx9 λa b c d e f g h i=>f103t23 N a b c d e f g h i K)
def f103t19 N a b c i d e f g h (K:KT ρ):=vQ (λk=>z03.Z20 N a b c i d e f g h k (λa b c d e f g h=>K (.exit 1) (z6n a b c d e f g h))) (f103t20 N a b c i d e f g h _) (fx9 λa b c i d e f g h=>f103t21 N a b c i d e f g h K)
def f103t17 N a b c d e f g h (K:KT ρ):=vQ (λk=>z03.Z18 N a b c d e f g h k) (f103t18 N a b c d e f g h _) (fx9 λa b c i d e f g h=>f103t19 N a b c i d e f g h K)
def f103t16 N a b c d e f g h (K:KT ρ):=vB 1 zch K (z03.Z16 N a b c d e f g h (λa b c d e f g h=>K .nrm (z6n a b c d e f g h)) (λi=>K .ret (z3y i))) (f103t17 N a b c d e f g h _) (by kernel_rfl)
def f103t76 N a b c d e f g h (K:KT ρ):z4o N 1943 (z6n a b c d e f g h) zch K =
 z03.Z76 N a b c d e f g h (λa b c d e f g h=>K .nrm (z6n a b c d e f g h)):=by kernel_rfl
def f103t15 N a b c d e f g h (K:KT ρ):=vQ (λk=>z03.Z16 N a b c d e f g h k (λi=>K .ret (z3y i))) (f103t16 N a b c d e f g h _) (fx8 λa b c d e f g h=>f103t76 N a b c d e f g h K)
def f103t13 N b c a d e i f g h (K:KT ρ):=vQ (λk=>z03.Z14 N b c a d e i f g h k (λa=>K (.exit 0) (zbo a))) (f103t14 N b c a d e i f g h _) (fx8 λb c a d e f g h=>f103t15 N b c a d e f g h K)
def f103t11 N a b c d e f g h (K:KT ρ):=vQ (λk=>z03.Z12 N a b c d e f g h k) (f103t12 N a b c d e f g h _) (fx9 λa b c d e i f g h=>f103t13 N a b c d e i f g h K)
def f103t10L N (K:KT ρ):=lp8 K (z03.Z10L N (λa=>K (.exit 0) (zbo a)) (λb=>K .ret (z3y b))) (λc d a e f g h i k=>z03.Z11 N c d a e f g h i k (λa=>K (.exit 0) (zbo a)) (λb=>K .ret (z3y b))) (λF c d a e f g h i=>f103t11 N c d a e f g h i _) (by kernel_rfl)
def f103t10 N a b c d e f g h (K:KT ρ):=vL (z6n a b c d e f g h) (f103t10L N (jK zly K) N a b c d e f g h) (by kernel_rfl)
def f103t9 N b c a d e f g h (K:KT ρ):=vB 0 zly K (z03.Z9 N b c a d e f g h (λa=>K .nrm (zbo a)) (λi=>K .ret (z3y i))) (f103t10 N b c a d e f g h _) (by kernel_rfl)
def f103t7 N a b c d e f (K:KT ρ):=vQ (λk=>z03.Z8 N a b c d e f k) (f103t8 N a b c d e f _) (fx8 λa b c g h d e f=>f103t9 N a b c g h d e f K)
def f103t77 N a (K:KT ρ):z4o N 31 (zbo a) f103lE K =
 z03.Z77 N a (λb=>K .ret (z3y b)):=by kernel_rfl
def f103t6 N b c a d e f (K:KT ρ):=vQ (λk=>z03.Z7 N b c a d e f k (λg=>K .ret (z3y g))) (f103t7 N b c a d e f _) (funext λa=>f103t77 N a K)
def f103t4 N a b c d e (K:KT ρ):=vQ (λk=>z03.Z5 N a b c d e k) (f103t5 N a b c d e _) (fx6 λa b f c d e=>f103t6 N a b f c d e K)
def f103t2 N a b c (K:KT ρ):=vQ (λk=>z03.Z3 N a b c k) (f103t3 N a b c _) (fx5 λd e a b c=>f103t4 N d e a b c K)
def f103t0 N a (K:KT ρ):=vQ (λk=>z03.Z1 N a k) (f103t1 N a _) (fx3 λb c d=>f103t2 N b c d K)
def f103ok(h:z03.Spec):z0l Tryz.prog 103 e103 :=
 okC Tryz.func103 z2w f103GOk (λN X K=>f103t0 N X.1 K) (by kernel_rfl) λX hb hp=>by
  obtain⟨a,_⟩:=X
  obtain⟨N,h⟩:=h a hb.1 hp
  exact⟨N,Eq.trans (by kernel_rfl) (h N (Nat.le_refl N))⟩
def e103ok:z0l Tryz.prog 103 e103:=f103ok z03.ok
end Go.Fw
namespace Go.Fw
variable {ρ : Type}
open Go.Proofs
def f63sig:Sig:=⟨[⟨.pair (.int .i64) (.pair (.int .i64) (.sl 3 (.int .i64))),true,false⟩],[⟨.bool,false,false⟩]⟩
def e63:z2j:=⟨f63sig,none,λX=>((),((z1o.g X.1),()))⟩
def f63G:Gm:=z3s (z3s z1v 102 e102) 103 e103
def f63GOk:GOk Tryz.prog f63G:=((GOk.nil).add e102ok (by kernel_rfl)).add e103ok (by kernel_rfl)
def f63lE:z01:=⟨[],[],[],[],[]⟩
def f63s0(a:MT):St:=z2e f63sig.ps (a,())
def f63s1(a:Bool):St:=z1h [(2,xB a)] [] []
def f63l1:z01:=⟨[2],[],[],[],[]⟩
def f63B:Nat->Option z01:=z1i [(1000000,f63l1)]
abbrev f63j{ρ:Type}(N n:Nat)(σ:St)(l:z01)(K:KT ρ):Option ρ:=z0w f63G tab f63B N (z2o 99 (z1x Tryz.f63) n) .n σ (z1f (some l) K)
def f63t0 N a (K:KT ρ):f63j N 1 (f63s0 a) f63lE K =
 z1o.Z0 N a (λb=>K .ret (f63s1 b)):=by kernel_rfl
def f63ok(h:z1o.Spec):z0l Tryz.prog 63 e63 :=
 okC Tryz.func63 z2w f63GOk (λN X K=>f63t0 N X.1 K) (by kernel_rfl) λX hb hp=>by
  obtain⟨a,_⟩:=X
  obtain⟨N,h⟩:=h a hb.1
  exact⟨N,Eq.trans (by kernel_rfl) (h N (Nat.le_refl N))⟩
def zps:z0l Tryz.prog 63 e63:=f63ok z1o.ok
end Go.Fw
namespace Go.Fw
variable {ρ : Type}
open Go.Proofs
def f121sig:Sig:=⟨[⟨.int .i64,false,false⟩],[⟨.str,false,false⟩]⟩
def e121:z2j:=⟨f121sig,(some λX=>strconv_Itoa.P X.1),λX=>((),((strconv_Itoa.g X.1),()))⟩
def zpp:Go.Shelf.Ren:=⟨λ| 171=>121 | 243=>159 | 246=>183 | 283=>195 | 284=>196 | 285=>197 | 286=>198 | 129=>131 | 317=>203 | 318=>204 | 319=>205 | 320=>206 | 337=>207 | 338=>208 | n=>n,λ| 3=>3 | 9=>9 | 2=>2 | 4=>4 | 171=>184 | 0=>0 | 53=>132 | 37=>37 | 5=>5 | 173=>186 | 212=>199 | 51=>130 | 20=>20 | 213=>200 | 46=>96 | 232=>201 | 233=>202 | n=>n,λ| 17=>5 | 18=>6 | 19=>7 | n=>n⟩
def f121lay:LaysM.n171 Tryz.prog zpp:={ mixed:=(by kernel_rfl),f129:=Tryz.func131.trans (congrArg some (by kernel_rfl)),f171:=Tryz.func121.trans (congrArg some (by kernel_rfl)),f243:=Tryz.func159.trans (congrArg some (by kernel_rfl)),f246:=Tryz.func183.trans (congrArg some (by kernel_rfl)),f283:=Tryz.func195.trans (congrArg some (by kernel_rfl)),f284:=Tryz.func196.trans (congrArg some (by kernel_rfl)),f285:=Tryz.func197.trans (congrArg some (by kernel_rfl)),f286:=Tryz.func198.trans (congrArg some (by kernel_rfl)),f317:=Tryz.func203.trans (congrArg some (by kernel_rfl)),f318:=Tryz.func204.trans (congrArg some (by kernel_rfl)),f319:=Tryz.func205.trans (congrArg some (by kernel_rfl)),f320:=Tryz.func206.trans (congrArg some (by kernel_rfl)),f337:=Tryz.func207.trans (congrArg some (by kernel_rfl)),f338:=Tryz.func208.trans (congrArg some (by kernel_rfl)),t0:=Tryz.underlying0,a0:=Tryz.isAgg0,z0:=Tryz.sizeOf0,v0:=Tryz.zeroValue0,t2:=Tryz.underlying2,a2:=Tryz.isAgg2,z2:=Tryz.sizeOf2,v2:=Tryz.zeroValue2,t3:=Tryz.underlying3,a3:=Tryz.isAgg3,z3:=Tryz.sizeOf3,v3:=Tryz.zeroValue3,t4:=Tryz.underlying4,a4:=Tryz.isAgg4,z4:=Tryz.sizeOf4,v4:=Tryz.zeroValue4,t5:=Tryz.underlying5,a5:=Tryz.isAgg5,z5:=Tryz.sizeOf5,v5:=Tryz.zeroValue5,t9:=Tryz.underlying9,a9:=Tryz.isAgg9,z9:=Tryz.sizeOf9,v9:=Tryz.zeroValue9,t20:=Tryz.underlying20,a20:=Tryz.isAgg20,z20:=Tryz.sizeOf20,v20:=Tryz.zeroValue20,t37:=Tryz.underlying37,a37:=Tryz.isAgg37,z37:=Tryz.sizeOf37,v37:=Tryz.zeroValue37,t46:=Tryz.underlying96,a46:=Tryz.isAgg96,z46:=Tryz.sizeOf96,v46:=Tryz.zeroValue96,t51:=Tryz.underlying130,a51:=Tryz.isAgg130,z51:=Tryz.sizeOf130,v51:=Tryz.zeroValue130,t53:=Tryz.underlying132,a53:=Tryz.isAgg132,z53:=Tryz.sizeOf132,v53:=Tryz.zeroValue132,t171:=Tryz.underlying184,a171:=Tryz.isAgg184,z171:=Tryz.sizeOf184,v171:=Tryz.zeroValue184,t173:=Tryz.underlying186,a173:=Tryz.isAgg186,z173:=Tryz.sizeOf186,v173:=Tryz.zeroValue186,t212:=Tryz.underlying199,a212:=Tryz.isAgg199,z212:=Tryz.sizeOf199,v212:=Tryz.zeroValue199,t213:=Tryz.underlying200,a213:=Tryz.isAgg200,z213:=Tryz.sizeOf200,t232:=Tryz.underlying201,a232:=Tryz.isAgg201,z232:=Tryz.sizeOf201,v232:=Tryz.zeroValue201,t233:=Tryz.underlying202,a233:=Tryz.isAgg202,z233:=Tryz.sizeOf202,v233:=Tryz.zeroValue202,g17:=(by kernel_rfl),g18:=(by kernel_rfl),g19:=(by kernel_rfl),i0:=(by kernel_rfl),i2:=(by kernel_rfl),i3:=(by kernel_rfl),i4:=(by kernel_rfl),i5:=(by kernel_rfl),i9:=(by kernel_rfl),i20:=(by kernel_rfl),i37:=(by kernel_rfl),i46:=(by kernel_rfl),i51:=(by kernel_rfl),i53:=(by kernel_rfl),i171:=(by kernel_rfl),i173:=(by kernel_rfl),i212:=(by kernel_rfl),i232:=(by kernel_rfl),i233:=(by kernel_rfl),m17:=(by kernel_rfl),m18:=(by kernel_rfl),m19:=(by kernel_rfl) }
def f121ok(_:True):z0l Tryz.prog 121 e121:=itoa_ok tab0 f121lay
def e121ok:z0l Tryz.prog 121 e121:=f121ok strconv_Itoa.ok
end Go.Fw
namespace Go.Fw
variable {ρ : Type}
open Go.Proofs
def f90sig:Sig:=⟨[⟨.int .i64,false,false⟩],[⟨.str,false,false⟩]⟩
def e90:z2j:=⟨f90sig,(some λX=>z2h.P X.1),λX=>((),((z2h.g X.1),()))⟩
def f90G:Gm:=z3s z1v 121 e121
def f90GOk:GOk Tryz.prog f90G:=(GOk.nil).add e121ok (by kernel_rfl)
def f90lE:z01:=⟨[],[],[],[],[]⟩
def f90s0(a:Int):St:=z2e f90sig.ps (a,())
def f90s1(a:ByteArray):St:=z1h [(2,.c (.str a))] [] []
def f90l1:z01:=⟨[2],[],[],[],[]⟩
def f90B:Nat->Option z01:=z1i [(1000000,f90l1)]
abbrev f90j{ρ:Type}(N n:Nat)(σ:St)(l:z01)(K:KT ρ):Option ρ:=z0w f90G tab f90B N (z2o 99 (z1x Tryz.f90) n) .n σ (z1f (some l) K)
def f90t0 N a (K:KT ρ):f90j N 1 (f90s0 a) f90lE K =
 z2h.Z0 N a (λb=>K .ret (f90s1 b)):=by kernel_rfl
def f90ok(h:z2h.Spec):z0l Tryz.prog 90 e90 :=
 okC Tryz.func90 z2w f90GOk (λN X K=>f90t0 N X.1 K) (by kernel_rfl) λX hb hp=>by
  obtain⟨a,_⟩:=X
  obtain⟨N,h⟩:=h a hp
  exact⟨N,Eq.trans (by kernel_rfl) (h N (Nat.le_refl N))⟩
def e90ok:z0l Tryz.prog 90 e90:=f90ok z2h.ok
end Go.Fw
namespace Go.Fw
variable {ρ : Type}
open Go.Proofs
def f79sig:Sig:=⟨[⟨.sl 9 (.str),false,false⟩,⟨.str,false,false⟩],[⟨.str,false,false⟩]⟩
def e79:z2j:=⟨f79sig,(some λX=>strings_Join.P X.1 X.2.1),λX=>((),((strings_Join.g X.1 X.2.1),()))⟩
def zk0:Go.Shelf.Ren:=⟨λ| 156=>79 | 165=>112 | 166=>113 | 169=>114 | 240=>153 | 241=>154 | 276=>179 | 277=>180 | n=>n,λ| 31=>70 | 9=>9 | 3=>3 | 4=>4 | 0=>0 | 20=>20 | 72=>114 | 76=>104 | 70=>112 | 37=>37 | 75=>103 | 127=>147 | 164=>169 | 5=>5 | 80=>116 | n=>n,λn=>n⟩
def f79lay:Lays.n156 Tryz.prog zk0:={ mixed:=(by kernel_rfl),f156:=Tryz.func79.trans (congrArg some (by kernel_rfl)),f165:=Tryz.func112.trans (congrArg some (by kernel_rfl)),f166:=Tryz.func113.trans (congrArg some (by kernel_rfl)),f169:=Tryz.func114.trans (congrArg some (by kernel_rfl)),f240:=Tryz.func153.trans (congrArg some (by kernel_rfl)),f241:=Tryz.func154.trans (congrArg some (by kernel_rfl)),f276:=Tryz.func179.trans (congrArg some (by kernel_rfl)),f277:=Tryz.func180.trans (congrArg some (by kernel_rfl)),t0:=Tryz.underlying0,a0:=Tryz.isAgg0,z0:=Tryz.sizeOf0,v0:=Tryz.zeroValue0,t3:=Tryz.underlying3,a3:=Tryz.isAgg3,z3:=Tryz.sizeOf3,v3:=Tryz.zeroValue3,t4:=Tryz.underlying4,a4:=Tryz.isAgg4,z4:=Tryz.sizeOf4,v4:=Tryz.zeroValue4,t9:=Tryz.underlying9,a9:=Tryz.isAgg9,z9:=Tryz.sizeOf9,v9:=Tryz.zeroValue9,t20:=Tryz.underlying20,a20:=Tryz.isAgg20,z20:=Tryz.sizeOf20,v20:=Tryz.zeroValue20,t31:=Tryz.underlying70,a31:=Tryz.isAgg70,z31:=Tryz.sizeOf70,v31:=Tryz.zeroValue70,t37:=Tryz.underlying37,a37:=Tryz.isAgg37,z37:=Tryz.sizeOf37,v37:=Tryz.zeroValue37,t70:=Tryz.underlying112,a70:=Tryz.isAgg112,z70:=Tryz.sizeOf112,v70:=Tryz.zeroValue112,t72:=Tryz.underlying114,a72:=Tryz.isAgg114,z72:=Tryz.sizeOf114,v72:=Tryz.zeroValue114,t75:=Tryz.underlying103,a75:=Tryz.isAgg103,z75:=Tryz.sizeOf103,v75:=Tryz.zeroValue103,t76:=Tryz.underlying104,a76:=Tryz.isAgg104,z76:=Tryz.sizeOf104,v76:=Tryz.zeroValue104,t127:=Tryz.underlying147,a127:=Tryz.isAgg147,z127:=Tryz.sizeOf147,v127:=Tryz.zeroValue147,t164:=Tryz.underlying169,a164:=Tryz.isAgg169,z164:=Tryz.sizeOf169,v164:=Tryz.zeroValue169 }
def f79layX:Builder.Extra Tryz.prog zk0:={ sizeBuilder:=(by kernel_rfl),liesBuilder:=(by kernel_rfl),t5:=Tryz.underlying5,a5:=Tryz.isAgg5,z5:=Tryz.sizeOf5,v5:=Tryz.zeroValue5,infoByte:=(by kernel_rfl),cellsByte:=(by kernel_rfl),sizeByte:=(by kernel_rfl),neB5:=(by decide) }
def f79ok(_:True):z0l Tryz.prog 79 e79:=join_ok f79lay f79layX
def e79ok:z0l Tryz.prog 79 e79:=f79ok strings_Join.ok
end Go.Fw
namespace Go.Fw
variable {ρ : Type}
open Go.Proofs
def f47sig:Sig:=⟨[⟨.sl 3 (.int .i64),false,false⟩],[⟨.str,false,false⟩]⟩
def e47:z2j:=⟨f47sig,(some λX=>z0z.P X.1),λX=>((),((z0z.g X.1),()))⟩
def f47G:Gm:=z3s (z3s z1v 79 e79) 90 e90
def f47GOk:GOk Tryz.prog f47G:=((GOk.nil).add e79ok (by kernel_rfl)).add e90ok (by kernel_rfl)
def f47lE:z01:=⟨[],[],[],[],[]⟩
def f47s0(a:LI):St:=z2e f47sig.ps (a,())
def f47s1(a:LI):St:=z1h [(0,.c (.sn 3 tI a none))] [] []
def f47l1:z01:=⟨[0],[],[],[],[]⟩
def f47s2(a:LI):St:=z1h [(0,.c (.sn 3 tI a none)),(3,.c (.nil))] [] []
def f47l2:z01:=⟨[0,3],[],[],[],[]⟩
def f47s3(a:LI)(b d:Int):St:=z1h [(3,.c (.nil)),(6,.c (.sn 3 tI a none)),(7,xi b),(8,xi d)] [] []
def f47l3:z01:=⟨[3,6,7,8],[],[],[],[]⟩
def f47s4(a:List ByteArray)(b:LI)(d e:Int):St:=z1h [(3,xo 1000192),(6,.c (.sn 3 tI b none)),(7,xi d),(8,xi e)] [] [(1000192,(⟨9,.str,a,true,false⟩:Row))]
def f47l4:z01:=⟨[3,6,7,8],[],[⟨⟨false,3,0⟩,30000000,9,.str,true⟩],[],[(⟨false,3,0⟩,1000192)]⟩
def zsm(a:List ByteArray):St:=z1h [(3,xo 1000192)] [] [(1000192,(⟨9,.str,a,true,false⟩:Row))]
def f47l5:z01:=⟨[3],[],[],[],[(⟨false,3,0⟩,1000192)]⟩
def f47s6(a:ByteArray):St:=z1h [(2,.c (.str a))] [] []
def f47l6:z01:=⟨[2],[],[],[],[]⟩
def f47B:Nat->Option z01:=z1i [(0,f47l5),(1000000,f47l6)]
abbrev f47j{ρ:Type}(N n:Nat)(σ:St)(l:z01)(K:KT ρ):Option ρ:=z0w f47G tab f47B N (z2o 99 (z1x Tryz.f47) n) .n σ (z1f (some l) K)
def f47t1 N a (K:KT ρ):f47j N 2 (f47s0 a) f47l1 K =
 z0z.Z1 N a (λa=>K .nrm (f47s1 a)):=by kernel_rfl
def f47t3 N a (K:KT ρ):f47j N 5 (f47s1 a) f47l2 K =
 z0z.Z3 N a (λa=>K .nrm (f47s2 a)):=by kernel_rfl
def f47t6 N a (K:KT ρ):f47j N 19 (f47s2 a) f47l3 K =
 z0z.Z6 N a (λb c d=>K .nrm (f47s3 b c d)):=by kernel_rfl
def f47t9 N a b c d (K:KT ρ):f47j N 75 (f47s4 a b c d) f47l4 K =
 z0z.Z9 N a b c d (λa b c d=>K .nrm (f47s4 a b c d)) (λa=>K (.exit 0) (zsm a)):=by kernel_rfl
def f47t8L N (K:KT ρ):=lp4 K (z0z.Z8L N (λa=>K (.exit 0) (zsm a))) (λa b c d k=>z0z.Z9 N a b c d k (λa=>K (.exit 0) (zsm a))) (λF a b c d=>f47t9 N a b c d _) (by kernel_rfl)
def f47t8 N a b c (K:KT ρ):=vL (f47s3 a b c) (f47t8L N (jK f47l5 K) N ([]:List ByteArray) a b c) (by kernel_rfl)
def f47t7 N a b c (K:KT ρ):=vB 0 f47l5 K (z0z.Z7 N a b c (λd=>K .nrm (zsm d))) (f47t8 N a b c _) (by kernel_rfl)
def f47t5 N a (K:KT ρ):=vQ (λk=>z0z.Z6 N a k) (f47t6 N a _) (fx3 λb c d=>f47t7 N b c d K)
def f47t10 N a (K:KT ρ):f47j N 15 (zsm a) f47lE K =
 z0z.Z10 N a (λb=>K .ret (f47s6 b)):=by kernel_rfl
def f47t4 N a (K:KT ρ):=vQ (λk=>z0z.Z5 N a k) (f47t5 N a _) (funext λb=>f47t10 N b K)
def f47t2 N a (K:KT ρ):=vQ (λk=>z0z.Z3 N a k) (f47t3 N a _) (funext λa=>f47t4 N a K)
def f47t0 N a (K:KT ρ):=vQ (λk=>z0z.Z1 N a k) (f47t1 N a _) (funext λa=>f47t2 N a K)
def f47ok(h:z0z.Spec):z0l Tryz.prog 47 e47 :=
 okC Tryz.func47 z2w f47GOk (λN X K=>f47t0 N X.1 K) (by kernel_rfl) λX hb hp=>by
  obtain⟨a,_⟩:=X
  obtain⟨N,h⟩:=h a hb.1 hp
  exact⟨N,Eq.trans (by kernel_rfl) (h N (Nat.le_refl N))⟩
def e47ok:z0l Tryz.prog 47 e47:=f47ok z0z.ok
end Go.Fw
namespace Go.Fw
variable {ρ : Type}
open Go.Proofs
def f64sig:Sig:=⟨[⟨.sl 22 (.sl 3 (.int .i64)),false,false⟩],[⟨.str,false,false⟩]⟩
def e64:z2j:=⟨f64sig,(some λX=>z1e.P X.1),λX=>((),((z1e.g X.1),()))⟩
def f64G:Gm:=z3s (z3s z1v 47 e47) 79 e79
def f64GOk:GOk Tryz.prog f64G:=((GOk.nil).add e47ok (by kernel_rfl)).add e79ok (by kernel_rfl)
def f64lE:z01:=⟨[],[],[],[],[]⟩
def f64s0(a:LL):St:=z2e f64sig.ps (a,())
def f64s1(a:LL):St:=z1h [(0,.c (.sn 22 (.sl 3 tI) a none))] [] []
def f64l1:z01:=⟨[0],[],[],[],[]⟩
def f64s2(a:LL):St:=z1h [(0,.c (.sn 22 (.sl 3 tI) a none)),(3,.c (.nil))] [] []
def f64l2:z01:=⟨[0,3],[],[],[],[]⟩
def f64s3(a:LL)(b d:Int):St:=z1h [(3,.c (.nil)),(6,.c (.sn 22 (.sl 3 tI) a none)),(7,xi b),(8,xi d)] [] []
def f64l3:z01:=⟨[3,6,7,8],[],[],[],[]⟩
def f64s4(a:List ByteArray)(b:LL)(d e:Int):St:=z1h [(3,xo 1000192),(6,.c (.sn 22 (.sl 3 tI) b none)),(7,xi d),(8,xi e)] [] [(1000192,(⟨9,.str,a,true,false⟩:Row))]
def f64l4:z01:=⟨[3,6,7,8],[],[⟨⟨false,3,0⟩,30000000,9,.str,true⟩],[],[(⟨false,3,0⟩,1000192)]⟩
def zsj(a:List ByteArray):St:=z1h [(3,xo 1000192)] [] [(1000192,(⟨9,.str,a,true,false⟩:Row))]
def f64l5:z01:=⟨[3],[],[],[],[(⟨false,3,0⟩,1000192)]⟩
def f64s6(a:ByteArray):St:=z1h [(2,.c (.str a))] [] []
def f64l6:z01:=⟨[2],[],[],[],[]⟩
def f64B:Nat->Option z01:=z1i [(0,f64l5),(1000000,f64l6)]
abbrev f64j{ρ:Type}(N n:Nat)(σ:St)(l:z01)(K:KT ρ):Option ρ:=z0w f64G tab f64B N (z2o 99 (z1x Tryz.f64) n) .n σ (z1f (some l) K)
def f64t1 N a (K:KT ρ):f64j N 2 (f64s0 a) f64l1 K =
 z1e.Z1 N a (λa=>K .nrm (f64s1 a)):=by kernel_rfl
def f64t3 N a (K:KT ρ):f64j N 5 (f64s1 a) f64l2 K =
 z1e.Z3 N a (λa=>K .nrm (f64s2 a)):=by kernel_rfl
def f64t6 N a (K:KT ρ):f64j N 19 (f64s2 a) f64l3 K =
 z1e.Z6 N a (λb c d=>K .nrm (f64s3 b c d)):=by kernel_rfl
def f64t9 N a b c d (K:KT ρ):f64j N 75 (f64s4 a b c d) f64l4 K =
 z1e.Z9 N a b c d (λa b c d=>K .nrm (f64s4 a b c d)) (λa=>K (.exit 0) (zsj a)):=by kernel_rfl
def f64t8L N (K:KT ρ):=lp4 K (z1e.Z8L N (λa=>K (.exit 0) (zsj a))) (λa b c d k=>z1e.Z9 N a b c d k (λa=>K (.exit 0) (zsj a))) (λF a b c d=>f64t9 N a b c d _) (by kernel_rfl)
def f64t8 N a b c (K:KT ρ):=vL (f64s3 a b c) (f64t8L N (jK f64l5 K) N ([]:List ByteArray) a b c) (by kernel_rfl)
def f64t7 N a b c (K:KT ρ):=vB 0 f64l5 K (z1e.Z7 N a b c (λd=>K .nrm (zsj d))) (f64t8 N a b c _) (by kernel_rfl)
def f64t5 N a (K:KT ρ):=vQ (λk=>z1e.Z6 N a k) (f64t6 N a _) (fx3 λb c d=>f64t7 N b c d K)
def f64t10 N a (K:KT ρ):f64j N 15 (zsj a) f64lE K =
 z1e.Z10 N a (λb=>K .ret (f64s6 b)):=by kernel_rfl
def f64t4 N a (K:KT ρ):=vQ (λk=>z1e.Z5 N a k) (f64t5 N a _) (funext λb=>f64t10 N b K)
def f64t2 N a (K:KT ρ):=vQ (λk=>z1e.Z3 N a k) (f64t3 N a _) (funext λa=>f64t4 N a K)
def f64t0 N a (K:KT ρ):=vQ (λk=>z1e.Z1 N a k) (f64t1 N a _) (funext λa=>f64t2 N a K)
def f64ok(h:z1e.Spec):z0l Tryz.prog 64 e64 :=
 okC Tryz.func64 z2w f64GOk (λN X K=>f64t0 N X.1 K) (by kernel_rfl) λX hb hp=>by
  obtain⟨a,_⟩:=X
  obtain⟨N,h⟩:=h a hb.1 hp
  exact⟨N,Eq.trans (by kernel_rfl) (h N (Nat.le_refl N))⟩
def e64ok:z0l Tryz.prog 64 e64:=f64ok z1e.ok
end Go.Fw
namespace Go.Fw
variable {ρ : Type}
open Go.Proofs
def f24sig:Sig:=⟨[⟨.pair (.int .i64) (.pair (.int .i64) (.sl 3 (.int .i64))),true,false⟩],[⟨.str,false,false⟩]⟩
def e24:z2j:=⟨f24sig,none,λX=>((),((z0d.g X.1),()))⟩
def f24G:Gm:=z3s (z3s z1v 63 e63) 64 e64
def f24GOk:GOk Tryz.prog f24G:=((GOk.nil).add zps (by kernel_rfl)).add e64ok (by kernel_rfl)
def f24lE:z01:=⟨[],[],[],[],[]⟩
def f24s0(a:MT):St:=z2e f24sig.ps (a,())
def f24s1(a b:Int)(c:LI):St:=z1h [(1,xb 1)] [(1,(27,[yi a,yi b,.sn 3 tI c none]))] []
def f24l1:z01:=⟨[1],[1],[],[],[]⟩
def f24s2(a b:Int)(d:LI):St:=z1h [(1,xb 1),(3,.c (.nil))] [(1,(27,[yi a,yi b,.sn 3 tI d none]))] []
def f24l2:z01:=⟨[1,3],[1],[],[],[]⟩
def f24s3(a b d:Int)(e:LI):St:=z1h [(1,xb 1),(3,.c (.nil)),(4,xi a)] [(1,(27,[yi b,yi d,.sn 3 tI e none]))] []
def f24l3:z01:=⟨[1,3,4],[1],[],[],[]⟩
def f24s4(a:LL)(b c d:Int)(e:LI):St:=z1h [(1,xb 1),(3,xo 1000192),(4,xi b)] [(1,(27,[yi c,yi d,.sn 3 tI e none]))] [(1000192,(⟨22,.sl 3 tI,a,false,false⟩:Row))]
def f24l4:z01:=⟨[1,3,4],[1],[⟨⟨false,3,0⟩,30000000,22,.sl 3 (.int .i64),false⟩],[],[(⟨false,3,0⟩,1000192)]⟩
def zsp(a:LL):St:=z1h [(3,xo 1000192)] [] [(1000192,(⟨22,.sl 3 tI,a,false,false⟩:Row))]
def f24l5:z01:=⟨[3],[],[],[],[(⟨false,3,0⟩,1000192)]⟩
def f24s6(a:ByteArray):St:=z1h [(2,.c (.str a))] [] []
def f24l6:z01:=⟨[2],[],[],[],[]⟩
def f24B:Nat->Option z01:=z1i [(0,f24l5),(1000000,f24l6)]
abbrev f24j{ρ:Type}(N n:Nat)(σ:St)(l:z01)(K:KT ρ):Option ρ:=z0w f24G tab f24B N (z2o 99 (z1x Tryz.f24) n) .n σ (z1f (some l) K)
def f24t1 N a (K:KT ρ):f24j N 2 (f24s0 a) f24l1 K =
 z0d.Z1 N a (λb c d=>K .nrm (f24s1 b c d)):=by kernel_rfl
def f24t3 N a b c (K:KT ρ):f24j N 5 (f24s1 a b c) f24l1 K =
 z0d.Z3 N a b c (λa b c=>K .nrm (f24s1 a b c)) (λd=>K .ret (f24s6 d)):=by kernel_rfl
def f24t5 N a b c (K:KT ρ):f24j N 11 (f24s1 a b c) f24l2 K =
 z0d.Z5 N a b c (λa b c=>K .nrm (f24s2 a b c)):=by kernel_rfl
def f24t8 N a b c (K:KT ρ):f24j N 39 (f24s2 a b c) f24l3 K =
 z0d.Z8 N a b c (λd a b c=>K .nrm (f24s3 d a b c)):=by kernel_rfl
def f24t11 N a b c d e (K:KT ρ):f24j N 151 (f24s4 a b c d e) f24l4 K =
 z0d.Z11 N a b c d e (λa b c d e=>K .nrm (f24s4 a b c d e)) (λa=>K (.exit 0) (zsp a)):=by kernel_rfl
def f24t10L N (K:KT ρ):=lp5 K (z0d.Z10L N (λa=>K (.exit 0) (zsp a))) (λa b c d e k=>z0d.Z11 N a b c d e k (λa=>K (.exit 0) (zsp a))) (λF a b c d e=>f24t11 N a b c d e _) (by kernel_rfl)
def f24t10 N a b c d (K:KT ρ):=vL (f24s3 a b c d) (f24t10L N (jK f24l5 K) N ([]:List (LI)) a b c d) (by kernel_rfl)
def f24t9 N a b c d (K:KT ρ):=vB 0 f24l5 K (z0d.Z9 N a b c d (λe=>K .nrm (zsp e))) (f24t10 N a b c d _) (by kernel_rfl)
def f24t7 N a b c (K:KT ρ):=vQ (λk=>z0d.Z8 N a b c k) (f24t8 N a b c _) (fx4 λd a b c=>f24t9 N d a b c K)
def f24t12 N a (K:KT ρ):f24j N 31 (zsp a) f24lE K =
 z0d.Z12 N a (λb=>K .ret (f24s6 b)):=by kernel_rfl
def f24t6 N a b c (K:KT ρ):=vQ (λk=>z0d.Z7 N a b c k) (f24t7 N a b c _) (funext λd=>f24t12 N d K)
def f24t4 N a b c (K:KT ρ):=vQ (λk=>z0d.Z5 N a b c k) (f24t5 N a b c _) (fx3 λa b c=>f24t6 N a b c K)
def f24t2 N a b c (K:KT ρ):=vQ (λk=>z0d.Z3 N a b c k (λd=>K .ret (f24s6 d))) (f24t3 N a b c _) (fx3 λa b c=>f24t4 N a b c K)
def f24t0 N a (K:KT ρ):=vQ (λk=>z0d.Z1 N a k) (f24t1 N a _) (fx3 λb c d=>f24t2 N b c d K)
def f24ok(h:z0d.Spec):z0l Tryz.prog 24 e24 :=
 okC Tryz.func24 z2w f24GOk (λN X K=>f24t0 N X.1 K) (by kernel_rfl) λX hb hp=>by
  obtain⟨a,_⟩:=X
  obtain⟨N,h⟩:=h a hb.1
  exact⟨N,Eq.trans (by kernel_rfl) (h N (Nat.le_refl N))⟩
def e24ok:z0l Tryz.prog 24 e24:=f24ok z0d.ok
end Go.Fw
namespace Go.Fw
variable {ρ : Type}
open Go.Proofs
def f61sig:Sig:=⟨[⟨.str,false,false⟩,⟨.str,false,false⟩],[⟨.sl 9 (.str),false,false⟩]⟩
def e61:z2j:=⟨f61sig,(some λX=>strings_Split.P X.1 X.2.1),λX=>((),((strings_Split.g X.1 X.2.1),()))⟩
def zk6:Go.Shelf.Ren:=⟨λ| 146=>61 | 221=>100 | 268=>136 | 138=>137 | 143=>138 | 195=>165 | 197=>166 | 218=>167 | 219=>168 | 260=>185 | 217=>186 | 225=>187 | 224=>188 | 267=>189 | 266=>199 | 314=>200 | n=>n,λ| 9=>9 | 31=>70 | 3=>3 | 4=>4 | 0=>0 | 105=>156 | 21=>21 | 5=>5 | 46=>96 | 119=>188 | 139=>191 | 138=>190 | 146=>192 | 51=>130 | n=>n,λ| 1=>0 | 3=>3 | 4=>4 | n=>n⟩
def f61lay:LaysM.n146 Tryz.prog zk6:={ mixed:=(by kernel_rfl),f138:=Tryz.func137.trans (congrArg some (by kernel_rfl)),f143:=Tryz.func138.trans (congrArg some (by kernel_rfl)),f146:=Tryz.func61.trans (congrArg some (by kernel_rfl)),f195:=Tryz.func165.trans (congrArg some (by kernel_rfl)),f197:=Tryz.func166.trans (congrArg some (by kernel_rfl)),f217:=Tryz.func186.trans (congrArg some (by kernel_rfl)),f218:=Tryz.func167.trans (congrArg some (by kernel_rfl)),f219:=Tryz.func168.trans (congrArg some (by kernel_rfl)),f221:=Tryz.func100.trans (congrArg some (by kernel_rfl)),f224:=Tryz.func188.trans (congrArg some (by kernel_rfl)),f225:=Tryz.func187.trans (congrArg some (by kernel_rfl)),f260:=Tryz.func185.trans (congrArg some (by kernel_rfl)),f266:=Tryz.func199.trans (congrArg some (by kernel_rfl)),f267:=Tryz.func189.trans (congrArg some (by kernel_rfl)),f268:=Tryz.func136.trans (congrArg some (by kernel_rfl)),f314:=Tryz.func200.trans (congrArg some (by kernel_rfl)),t0:=Tryz.underlying0,a0:=Tryz.isAgg0,z0:=Tryz.sizeOf0,v0:=Tryz.zeroValue0,t3:=Tryz.underlying3,a3:=Tryz.isAgg3,z3:=Tryz.sizeOf3,v3:=Tryz.zeroValue3,t4:=Tryz.underlying4,a4:=Tryz.isAgg4,z4:=Tryz.sizeOf4,v4:=Tryz.zeroValue4,t5:=Tryz.underlying5,a5:=Tryz.isAgg5,z5:=Tryz.sizeOf5,v5:=Tryz.zeroValue5,t9:=Tryz.underlying9,a9:=Tryz.isAgg9,z9:=Tryz.sizeOf9,v9:=Tryz.zeroValue9,t21:=Tryz.underlying21,a21:=Tryz.isAgg21,z21:=Tryz.sizeOf21,v21:=Tryz.zeroValue21,t31:=Tryz.underlying70,a31:=Tryz.isAgg70,z31:=Tryz.sizeOf70,v31:=Tryz.zeroValue70,t46:=Tryz.underlying96,a46:=Tryz.isAgg96,z46:=Tryz.sizeOf96,v46:=Tryz.zeroValue96,t51:=Tryz.underlying130,a51:=Tryz.isAgg130,z51:=Tryz.sizeOf130,v51:=Tryz.zeroValue130,t105:=Tryz.underlying156,a105:=Tryz.isAgg156,z105:=Tryz.sizeOf156,v105:=Tryz.zeroValue156,t119:=Tryz.underlying188,a119:=Tryz.isAgg188,z119:=Tryz.sizeOf188,t138:=Tryz.underlying190,a138:=Tryz.isAgg190,z138:=Tryz.sizeOf190,v138:=Tryz.zeroValue190,t139:=Tryz.underlying191,a139:=Tryz.isAgg191,z139:=Tryz.sizeOf191,v139:=Tryz.zeroValue191,t146:=Tryz.underlying192,a146:=Tryz.isAgg192,z146:=Tryz.sizeOf192,v146:=Tryz.zeroValue192,g1:=(by kernel_rfl),g3:=(by kernel_rfl),g4:=(by kernel_rfl),i0:=(by kernel_rfl),i3:=(by kernel_rfl),i4:=(by kernel_rfl),i5:=(by kernel_rfl),i9:=(by kernel_rfl),i21:=(by kernel_rfl),i31:=(by kernel_rfl),i46:=(by kernel_rfl),i51:=(by kernel_rfl),i105:=(by kernel_rfl),i138:=(by kernel_rfl),i139:=(by kernel_rfl),i146:=(by kernel_rfl),m1:=(by kernel_rfl),s1_3:=λw h=>Go.Proofs.cell_of_shapedOpen_int (zero:=#[.int .i64 0]) (t:=3) h (of_decide_eq_true (by kernel_rfl)) (by kernel_rfl) rfl (by kernel_rfl) (by kernel_rfl) Tryz.underlying3,m3:=(by kernel_rfl),m4:=(by kernel_rfl) }
def f61ok(_:True):z0l Tryz.prog 61 e61:=split_ok (λw h=>(by
 obtain⟨g,h1,h2⟩:=int0 w h
 have e : Tryz.prog.globalNamed "internal/bytealg.MaxLen" = some (zk6.g 1) := by kernel_rfl
 rw[e]at h1
 injection h1 with h1
 subst h1
 exact h2)) f61lay
def e61ok:z0l Tryz.prog 61 e61:=f61ok strings_Split.ok
end Go.Fw
namespace Go.Fw
variable {ρ : Type}
open Go.Proofs
def f101sig:Sig:=⟨[⟨.str,false,false⟩],[⟨.int .i64,false,false⟩,⟨.err,false,false⟩]⟩
def e101:z2j:=⟨f101sig,(some λX=>z2q.P X.1),λX=>((),((z2q.g X.1).1,((z2q.g X.1).2,())))⟩
def zbq:Go.Shelf.Ren:=⟨λ| 172=>101 | 244=>139 | 245=>140 | 247=>169 | 279=>170 | 280=>171 | 281=>172 | 282=>173 | 287=>190 | 316=>191 | 171=>121 | 205=>192 | 321=>201 | 322=>202 | 243=>159 | 246=>183 | 283=>195 | 284=>196 | 285=>197 | 286=>198 | 129=>131 | 317=>203 | 318=>204 | 319=>205 | 320=>206 | 337=>207 | 338=>208 | n=>n,λ| 9=>9 | 3=>3 | 75=>103 | 76=>104 | 4=>4 | 5=>5 | 167=>159 | 37=>37 | 0=>0 | 85=>160 | 2=>2 | 168=>162 | 53=>132 | 175=>176 | 46=>96 | 210=>180 | 127=>147 | 145=>197 | 143=>195 | 21=>21 | 171=>184 | 173=>186 | 212=>199 | 51=>130 | 20=>20 | 213=>200 | 232=>201 | 233=>202 | 80=>116 | n=>n,λ| 15=>1 | 16=>2 | 17=>5 | 18=>6 | 19=>7 | n=>n⟩
def f101lay:LaysC.n172 Tryz.prog zbq:={ mixed:=(by kernel_rfl),f129:=Tryz.func131.trans (congrArg some (by kernel_rfl)),f171:=Tryz.func121.trans (congrArg some (by kernel_rfl)),f172:=Tryz.func101.trans (congrArg some (by kernel_rfl)),f205:=Tryz.func192.trans (congrArg some (by kernel_rfl)),f243:=Tryz.func159.trans (congrArg some (by kernel_rfl)),f244:=Tryz.func139.trans (congrArg some (by kernel_rfl)),f245:=Tryz.func140.trans (congrArg some (by kernel_rfl)),f246:=Tryz.func183.trans (congrArg some (by kernel_rfl)),f247:=Tryz.func169.trans (congrArg some (by kernel_rfl)),f279:=Tryz.func170.trans (congrArg some (by kernel_rfl)),f280:=Tryz.func171.trans (congrArg some (by kernel_rfl)),f281:=Tryz.func172.trans (congrArg some (by kernel_rfl)),f282:=Tryz.func173.trans (congrArg some (by kernel_rfl)),f283:=Tryz.func195.trans (congrArg some (by kernel_rfl)),f284:=Tryz.func196.trans (congrArg some (by kernel_rfl)),f285:=Tryz.func197.trans (congrArg some (by kernel_rfl)),f286:=Tryz.func198.trans (congrArg some (by kernel_rfl)),f287:=Tryz.func190.trans (congrArg some (by kernel_rfl)),f316:=Tryz.func191.trans (congrArg some (by kernel_rfl)),f317:=Tryz.func203.trans (congrArg some (by kernel_rfl)),f318:=Tryz.func204.trans (congrArg some (by kernel_rfl)),f319:=Tryz.func205.trans (congrArg some (by kernel_rfl)),f320:=Tryz.func206.trans (congrArg some (by kernel_rfl)),f321:=Tryz.func201.trans (congrArg some (by kernel_rfl)),f322:=Tryz.func202.trans (congrArg some (by kernel_rfl)),f337:=Tryz.func207.trans (congrArg some (by kernel_rfl)),f338:=Tryz.func208.trans (congrArg some (by kernel_rfl)),t0:=Tryz.underlying0,a0:=Tryz.isAgg0,z0:=Tryz.sizeOf0,v0:=Tryz.zeroValue0,t2:=Tryz.underlying2,a2:=Tryz.isAgg2,z2:=Tryz.sizeOf2,v2:=Tryz.zeroValue2,t3:=Tryz.underlying3,a3:=Tryz.isAgg3,z3:=Tryz.sizeOf3,v3:=Tryz.zeroValue3,t4:=Tryz.underlying4,a4:=Tryz.isAgg4,z4:=Tryz.sizeOf4,v4:=Tryz.zeroValue4,t5:=Tryz.underlying5,a5:=Tryz.isAgg5,z5:=Tryz.sizeOf5,v5:=Tryz.zeroValue5,t9:=Tryz.underlying9,a9:=Tryz.isAgg9,z9:=Tryz.sizeOf9,v9:=Tryz.zeroValue9,t20:=Tryz.underlying20,a20:=Tryz.isAgg20,z20:=Tryz.sizeOf20,v20:=Tryz.zeroValue20,t21:=Tryz.underlying21,a21:=Tryz.isAgg21,z21:=Tryz.sizeOf21,v21:=Tryz.zeroValue21,t37:=Tryz.underlying37,a37:=Tryz.isAgg37,z37:=Tryz.sizeOf37,v37:=Tryz.zeroValue37,t46:=Tryz.underlying96,a46:=Tryz.isAgg96,z46:=Tryz.sizeOf96,v46:=Tryz.zeroValue96,t51:=Tryz.underlying130,a51:=Tryz.isAgg130,z51:=Tryz.sizeOf130,v51:=Tryz.zeroValue130,t53:=Tryz.underlying132,a53:=Tryz.isAgg132,z53:=Tryz.sizeOf132,v53:=Tryz.zeroValue132,t75:=Tryz.underlying103,a75:=Tryz.isAgg103,z75:=Tryz.sizeOf103,v75:=Tryz.zeroValue103,t76:=Tryz.underlying104,a76:=Tryz.isAgg104,z76:=Tryz.sizeOf104,v76:=Tryz.zeroValue104,t85:=Tryz.underlying160,a85:=Tryz.isAgg160,z85:=Tryz.sizeOf160,v85:=Tryz.zeroValue160,t127:=Tryz.underlying147,a127:=Tryz.isAgg147,z127:=Tryz.sizeOf147,v127:=Tryz.zeroValue147,t143:=Tryz.underlying195,a143:=Tryz.isAgg195,z143:=Tryz.sizeOf195,v143:=Tryz.zeroValue195,t145:=Tryz.underlying197,a145:=Tryz.isAgg197,z145:=Tryz.sizeOf197,v145:=Tryz.zeroValue197,t167:=Tryz.underlying159,a167:=Tryz.isAgg159,z167:=Tryz.sizeOf159,v167:=Tryz.zeroValue159,t168:=Tryz.underlying162,a168:=Tryz.isAgg162,z168:=Tryz.sizeOf162,v168:=Tryz.zeroValue162,t171:=Tryz.underlying184,a171:=Tryz.isAgg184,z171:=Tryz.sizeOf184,v171:=Tryz.zeroValue184,t173:=Tryz.underlying186,a173:=Tryz.isAgg186,z173:=Tryz.sizeOf186,v173:=Tryz.zeroValue186,t175:=Tryz.underlying176,a175:=Tryz.isAgg176,z175:=Tryz.sizeOf176,v175:=Tryz.zeroValue176,t210:=Tryz.underlying180,a210:=Tryz.isAgg180,z210:=Tryz.sizeOf180,v210:=Tryz.zeroValue180,t212:=Tryz.underlying199,a212:=Tryz.isAgg199,z212:=Tryz.sizeOf199,v212:=Tryz.zeroValue199,t213:=Tryz.underlying200,a213:=Tryz.isAgg200,z213:=Tryz.sizeOf200,t232:=Tryz.underlying201,a232:=Tryz.isAgg201,z232:=Tryz.sizeOf201,v232:=Tryz.zeroValue201,t233:=Tryz.underlying202,a233:=Tryz.isAgg202,z233:=Tryz.sizeOf202,v233:=Tryz.zeroValue202,g15:=(by kernel_rfl),g16:=(by kernel_rfl),g17:=(by kernel_rfl),g18:=(by kernel_rfl),g19:=(by kernel_rfl),t80:=Tryz.underlying116,a80:=Tryz.isAgg116,z80:=Tryz.sizeOf116,v80:=Tryz.zeroValue116,i0:=(by kernel_rfl),i2:=(by kernel_rfl),i3:=(by kernel_rfl),i4:=(by kernel_rfl),i5:=(by kernel_rfl),i9:=(by kernel_rfl),i20:=(by kernel_rfl),i21:=(by kernel_rfl),i37:=(by kernel_rfl),i46:=(by kernel_rfl),i51:=(by kernel_rfl),i53:=(by kernel_rfl),i75:=(by kernel_rfl),i76:=(by kernel_rfl),i80:=(by kernel_rfl),i85:=(by kernel_rfl),i127:=(by kernel_rfl),i143:=(by kernel_rfl),i145:=(by kernel_rfl),i167:=(by kernel_rfl),i168:=(by kernel_rfl),i171:=(by kernel_rfl),i173:=(by kernel_rfl),i175:=(by kernel_rfl),i210:=(by kernel_rfl),i212:=(by kernel_rfl),i232:=(by kernel_rfl),i233:=(by kernel_rfl),m15:=(by kernel_rfl),m16:=(by kernel_rfl),m17:=(by kernel_rfl),m18:=(by kernel_rfl),m19:=(by kernel_rfl),c0:=(by kernel_rfl),c2:=(by kernel_rfl),c3:=(by kernel_rfl),c4:=(by kernel_rfl),c5:=(by kernel_rfl),c9:=(by kernel_rfl),c20:=(by kernel_rfl),c21:=(by kernel_rfl),c37:=(by kernel_rfl),c46:=(by kernel_rfl),c51:=(by kernel_rfl),c53:=(by kernel_rfl),c75:=(by kernel_rfl),c76:=(by kernel_rfl),c80:=(by kernel_rfl),c85:=(by kernel_rfl),c127:=(by kernel_rfl),c143:=(by kernel_rfl),c145:=(by kernel_rfl),c167:=(by kernel_rfl),c168:=(by kernel_rfl),c171:=(by kernel_rfl),c173:=(by kernel_rfl),c175:=(by kernel_rfl),c210:=(by kernel_rfl),c212:=(by kernel_rfl),c213:=(by kernel_rfl),c232:=(by kernel_rfl),c233:=(by kernel_rfl) }
def f101ok(_:True):z0l Tryz.prog 101 e101:=atoi_ok (λw h=>(by
 obtain⟨g,h1,h2⟩:=err0 w h
 have e : Tryz.prog.globalNamed "strconv.ErrSyntax" = some (zbq.g 15) := by kernel_rfl
 rw[e]at h1
 injection h1 with h1
 subst h1
 exact h2)) (λw h=>(by
 obtain⟨g,h1,h2⟩:=err1 w h
 have e : Tryz.prog.globalNamed "strconv.ErrRange" = some (zbq.g 16) := by kernel_rfl
 rw[e]at h1
 injection h1 with h1
 subst h1
 exact h2)) f101lay
def e101ok:z0l Tryz.prog 101 e101:=f101ok z2q.ok
end Go.Fw
namespace Go.Fw
variable {ρ : Type}
open Go.Proofs
def f62sig:Sig:=⟨[⟨.str,false,false⟩],[⟨.sl 3 (.int .i64),false,false⟩,⟨.bool,false,false⟩]⟩
def e62:z2j:=⟨f62sig,(some λX=>z0s.P X.1),λX=>((),((z0s.g X.1).1,((z0s.g X.1).2,())))⟩
def f62G:Gm:=z3s (z3s (z3s (z3s z1v 47 e47) 61 e61) 91 e91) 101 e101
def f62GOk:GOk Tryz.prog f62G:=((((GOk.nil).add e47ok (by kernel_rfl)).add e61ok (by kernel_rfl)).add e91ok (by kernel_rfl)).add e101ok (by kernel_rfl)
def f62lE:z01:=⟨[],[],[],[],[]⟩
def f62s0(a:ByteArray):St:=z2e f62sig.ps (a,())
def f62s1(a:ByteArray):St:=z1h [(0,.c (.str a))] [] []
def f62l1:z01:=⟨[0],[],[],[],[]⟩
def f62s2(a:ByteArray):St:=z1h [(0,.c (.str a)),(4,.c (.nil))] [] []
def f62l2:z01:=⟨[0,4],[],[],[],[]⟩
def f62s3(a:List ByteArray)(b:ByteArray)(d e:Int):St:=z1h [(0,.c (.str b)),(4,.c (.nil)),(12,xo 1000768),(13,xi d),(14,xi e)] [] [(1000768,(⟨9,.str,a,true,false⟩:Row))]
def f62l3:z01:=⟨[0,4,12,13,14],[],[],[],[(⟨false,12,0⟩,1000768)]⟩
def f62s4(a:LI)(b:List ByteArray)(d:ByteArray)(e f:Int):St:=z1h [(0,.c (.str d)),(4,xo 1000256),(12,xo 1000768),(13,xi e),(14,xi f)] [] [(1000256,(⟨3,.int .i64,a,true,false⟩:Row)),(1000768,(⟨9,.str,b,true,false⟩:Row))]
def f62l4:z01:=⟨[0,4,12,13,14],[],[⟨⟨false,4,0⟩,30000000,3,.int .i64,true⟩],[],[(⟨false,4,0⟩,1000256),(⟨false,12,0⟩,1000768)]⟩
def zsk(a:LI)(b:ByteArray):St:=z1h [(0,.c (.str b)),(4,xo 1000256)] [] [(1000256,(⟨3,.int .i64,a,true,false⟩:Row))]
def f62l5:z01:=⟨[0,4],[],[],[],[(⟨false,4,0⟩,1000256)]⟩
def zk5(a:LI)(b:Bool):St:=z1h [(2,xo 1000128),(3,xB b)] [] [(1000128,(⟨3,.int .i64,a,true,false⟩:Row))]
def f62l6:z01:=⟨[2,3],[],[⟨⟨false,2,0⟩,30000000,3,.int .i64,true⟩],[],[(⟨false,2,0⟩,1000128)]⟩
def f62B:Nat->Option z01:=z1i [(0,f62l5),(1000000,f62l6)]
abbrev f62j{ρ:Type}(N n:Nat)(σ:St)(l:z01)(K:KT ρ):Option ρ:=z0w f62G tab f62B N (z2o 99 (z1x Tryz.f62) n) .n σ (z1f (some l) K)
def f62t1 N a (K:KT ρ):f62j N 2 (f62s0 a) f62l1 K =
 z0s.Z1 N a (λa=>K .nrm (f62s1 a)):=by kernel_rfl
def f62t3 N a (K:KT ρ):f62j N 5 (f62s1 a) f62l1 K =
 z0s.Z3 N a (λa=>K .nrm (f62s1 a)) (λb c=>K .ret (zk5 b c)):=by kernel_rfl
def f62t5 N a (K:KT ρ):f62j N 11 (f62s1 a) f62l2 K =
 z0s.Z5 N a (λa=>K .nrm (f62s2 a)):=by kernel_rfl
def f62t8 N a (K:KT ρ):f62j N 39 (f62s2 a) f62l3 K =
 z0s.Z8 N a (λb a c d=>K .nrm (f62s3 b a c d)):=by kernel_rfl
def f62t11 N a c b d e (K:KT ρ):f62j N 151 (f62s4 a c b d e) f62l4 K =
 z0s.Z11 N a c b d e (λa c b d e=>K .nrm (f62s4 a c b d e)) (λa b=>K (.exit 0) (zsk a b)) (λf g=>K .ret (zk5 f g)):=by kernel_rfl
def f62t10L N (K:KT ρ):=lp5 K (z0s.Z10L N (λa b=>K (.exit 0) (zsk a b)) (λc d=>K .ret (zk5 c d))) (λa e b f g k=>z0s.Z11 N a e b f g k (λa b=>K (.exit 0) (zsk a b)) (λc d=>K .ret (zk5 c d))) (λF a e b f g=>f62t11 N a e b f g _) (by kernel_rfl)
def f62t10 N a b c d (K:KT ρ):=vL (f62s3 a b c d) (f62t10L N (jK f62l5 K) N ([]:List Int) a b c d) (by kernel_rfl)
def f62t9 N b a c d (K:KT ρ):=vB 0 f62l5 K (z0s.Z9 N b a c d (λe a=>K .nrm (zsk e a)) (λf g=>K .ret (zk5 f g))) (f62t10 N b a c d _) (by kernel_rfl)
def f62t7 N a (K:KT ρ):=vQ (λk=>z0s.Z8 N a k) (f62t8 N a _) (fx4 λb a c d=>f62t9 N b a c d K)
def f62t12 N a b (K:KT ρ):f62j N 31 (zsk a b) f62lE K =
 z0s.Z12 N a b (λc d=>K .ret (zk5 c d)):=by kernel_rfl
def f62t6 N a (K:KT ρ):=vQ (λk=>z0s.Z7 N a k (λb c=>K .ret (zk5 b c))) (f62t7 N a _) (fx2 λd a=>f62t12 N d a K)
def f62t4 N a (K:KT ρ):=vQ (λk=>z0s.Z5 N a k) (f62t5 N a _) (funext λa=>f62t6 N a K)
def f62t2 N a (K:KT ρ):=vQ (λk=>z0s.Z3 N a k (λb c=>K .ret (zk5 b c))) (f62t3 N a _) (funext λa=>f62t4 N a K)
def f62t0 N a (K:KT ρ):=vQ (λk=>z0s.Z1 N a k) (f62t1 N a _) (funext λa=>f62t2 N a K)
def f62ok(h:z0s.Spec):z0l Tryz.prog 62 e62 :=
 okC Tryz.func62 z2w f62GOk (λN X K=>f62t0 N X.1 K) (by kernel_rfl) λX hb hp=>by
  obtain⟨a,_⟩:=X
  obtain⟨N,h⟩:=h a hp
  exact⟨N,Eq.trans (by kernel_rfl) (h N (Nat.le_refl N))⟩
def e62ok:z0l Tryz.prog 62 e62:=f62ok z0s.ok
end Go.Fw
namespace Go.Fw
variable {ρ : Type}
open Go.Proofs
def f23sig:Sig:=⟨[⟨.str,false,false⟩],[⟨.pair (.int .i64) (.pair (.int .i64) (.sl 3 (.int .i64))),true,false⟩,⟨.bool,false,false⟩]⟩
def e23:z2j:=⟨f23sig,(some λX=>z0j.P X.1),λX=>((),((z0j.g X.1).1,((z0j.g X.1).2,())))⟩
def f23G:Gm:=z3s (z3s (z3s (z3s z1v 24 e24) 61 e61) 62 e62) 63 e63
def f23GOk:GOk Tryz.prog f23G:=((((GOk.nil).add e24ok (by kernel_rfl)).add e61ok (by kernel_rfl)).add e62ok (by kernel_rfl)).add zps (by kernel_rfl)
def f23lE:z01:=⟨[],[],[],[],[]⟩
def f23s0(a:ByteArray):St:=z2e f23sig.ps (a,())
def f23s1(a:ByteArray)(b d:Int):St:=z1h [(0,.c (.str a)),(2,xb 2)] [(2,(27,[yi b,yi d,.nil]))] []
def f23l1:z01:=⟨[0,2],[2],[],[],[]⟩
def f23s2(a:ByteArray)(b d e f:Int):St:=z1h [(0,.c (.str a)),(2,xb 2),(4,xb 4)] [(2,(27,[yi b,yi d,.nil])),(4,(27,[yi e,yi f,.nil]))] []
def f23l2:z01:=⟨[0,2,4],[2,4],[],[],[]⟩
def f23s3(a:List ByteArray)(b:ByteArray)(d e f g h i:Int):St:=z1h [(0,.c (.str b)),(2,xb 2),(4,xb 4),(11,xo 1000704),(12,xi d),(13,xi e)] [(2,(27,[yi f,yi g,.nil])),(4,(27,[yi h,yi i,.nil]))] [(1000704,(⟨9,.str,a,true,false⟩:Row))]
def f23l3:z01:=⟨[0,2,4,11,12,13],[2,4],[],[],[(⟨false,11,0⟩,1000704)]⟩
def f23s4(a:List ByteArray)(b:LI)(d:ByteArray)(e f g h i j:Int):St:=z1h [(0,.c (.str d)),(2,xb 2),(4,xb 4),(11,xo 1000704),(12,xi e),(13,xi f)] [(2,(27,[yi g,yi h,.nil])),(4,(27,[yi i,yi j,.own 20000258]))] [(1000704,(⟨9,.str,a,true,false⟩:Row)),(20000258,(⟨3,.int .i64,b,true,false⟩:Row))]
def f23l4:z01:=⟨[0,2,4,11,12,13],[2,4],[⟨⟨true,4,2⟩,30000000,3,.int .i64,true⟩],[],[(⟨false,11,0⟩,1000704),(⟨true,4,2⟩,20000258)]⟩
def zsq(a:LI)(b:ByteArray)(d e f g:Int):St:=z1h [(0,.c (.str b)),(2,xb 2),(4,xb 4)] [(2,(27,[yi d,yi e,.nil])),(4,(27,[yi f,yi g,.own 20000258]))] [(20000258,(⟨3,.int .i64,a,true,false⟩:Row))]
def f23l5:z01:=⟨[0,2,4],[2,4],[],[],[(⟨true,4,2⟩,20000258)]⟩
def zpo(a:LI)(b:Bool)(c d:Int):St:=z1h [(2,xb 2),(3,xB b)] [(2,(27,[yi c,yi d,.own 20000130]))] [(20000130,(⟨3,.int .i64,a,true,false⟩:Row))]
def f23l6:z01:=⟨[2,3],[2],[⟨⟨true,2,2⟩,30000000,3,.int .i64,true⟩],[],[(⟨true,2,2⟩,20000130)]⟩
def f23B:Nat->Option z01:=z1i [(0,f23l5),(1000000,f23l6)]
abbrev f23j{ρ:Type}(N n:Nat)(σ:St)(l:z01)(K:KT ρ):Option ρ:=z0w f23G tab f23B N (z2o 99 (z1x Tryz.f23) n) .n σ (z1f (some l) K)
def f23t1 N a (K:KT ρ):f23j N 2 (f23s0 a) f23l1 K =
 z0j.Z1 N a (λa b c=>K .nrm (f23s1 a b c)):=by kernel_rfl
def f23t3 N a b c (K:KT ρ):f23j N 5 (f23s1 a b c) f23l2 K =
 z0j.Z3 N a b c (λa b c d e=>K .nrm (f23s2 a b c d e)):=by kernel_rfl
def f23t6 N a b c d e (K:KT ρ):f23j N 19 (f23s2 a b c d e) f23l3 K =
 z0j.Z6 N a b c d e (λf a g h b c d e=>K .nrm (f23s3 f a g h b c d e)):=by kernel_rfl
def f23t9 N g c d h i a b e f (K:KT ρ):f23j N 75 (f23s4 g c d h i a b e f) f23l4 K =
 z0j.Z9 N g c d h i a b e f (λg c d h i a b e f=>K .nrm (f23s4 g c d h i a b e f)) (λc d a b e f=>K (.exit 0) (zsq c d a b e f)) (λj l a b=>K .ret (zpo j l a b)):=by kernel_rfl
def f23t8L N (K:KT ρ):=lp9 K (z0j.Z8L N (λc d a b e f=>K (.exit 0) (zsq c d a b e f)) (λg h a b=>K .ret (zpo g h a b))) (λi c d j l a b e f k=>z0j.Z9 N i c d j l a b e f k (λc d a b e f=>K (.exit 0) (zsq c d a b e f)) (λg h a b=>K .ret (zpo g h a b))) (λF i c d j l a b e f=>f23t9 N i c d j l a b e f _) (by kernel_rfl)
def f23t8 N a b c d e f g h (K:KT ρ):=vL (f23s3 a b c d e f g h) (f23t8L N (jK f23l5 K) N a ([]:List Int) b c d e f g h) (by kernel_rfl)
def f23t7 N f c g h a b d e (K:KT ρ):=vB 0 f23l5 K (z0j.Z7 N f c g h a b d e (λi c a b d e=>K .nrm (zsq i c a b d e)) (λj l a b=>K .ret (zpo j l a b))) (f23t8 N f c g h a b d e _) (by kernel_rfl)
def f23t5 N a b c d e (K:KT ρ):=vQ (λk=>z0j.Z6 N a b c d e k) (f23t6 N a b c d e _) (fx8 λf a g h b c d e=>f23t7 N f a g h b c d e K)
def f23t10 N c d a b e f (K:KT ρ):f23j N 15 (zsq c d a b e f) f23lE K =
 z0j.Z10 N c d a b e f (λg h a b=>K .ret (zpo g h a b)):=by kernel_rfl
def f23t4 N c a b d e (K:KT ρ):=vQ (λk=>z0j.Z5 N c a b d e k (λf g a b=>K .ret (zpo f g a b))) (f23t5 N c a b d e _) (fx6 λh c a b d e=>f23t10 N h c a b d e K)
def f23t2 N a b c (K:KT ρ):=vQ (λk=>z0j.Z3 N a b c k) (f23t3 N a b c _) (fx5 λa b c d e=>f23t4 N a b c d e K)
def f23t0 N a (K:KT ρ):=vQ (λk=>z0j.Z1 N a k) (f23t1 N a _) (fx3 λa b c=>f23t2 N a b c K)
def f23ok(h:z0j.Spec):z0l Tryz.prog 23 e23 :=
 okC Tryz.func23 z2w f23GOk (λN X K=>f23t0 N X.1 K) (by kernel_rfl) λX hb hp=>by
  obtain⟨a,_⟩:=X
  obtain⟨N,h⟩:=h a hp
  exact⟨N,Eq.trans (by kernel_rfl) (h N (Nat.le_refl N))⟩
def e23ok:z0l Tryz.prog 23 e23:=f23ok z0j.ok
end Go.Fw
namespace Go.Fw
variable {ρ : Type}
open Go.Proofs
def f67sig:Sig:=⟨[⟨.sl 3 (.int .i64),false,false⟩,⟨.sl 3 (.int .i64),false,false⟩],[⟨.bool,false,false⟩]⟩
def e67:z2j:=⟨f67sig,none,λX=>((),((z2x.g X.1 X.2.1),()))⟩
def f67G:Gm:=z1v
def f67GOk:GOk Tryz.prog f67G:=GOk.nil
def f67lE:z01:=⟨[],[],[],[],[]⟩
def f67s0(a b:LI):St:=z2e f67sig.ps (a,(b,()))
def f67s1(a b:LI):St:=z1h [(0,.c (.sn 3 tI a none)),(1,.c (.sn 3 tI b none))] [] []
def f67l1:z01:=⟨[0,1],[],[],[],[]⟩
def f67s2(a b:LI)(d:Int):St:=z1h [(0,.c (.sn 3 tI a none)),(1,.c (.sn 3 tI b none)),(5,xi d)] [] []
def f67l2:z01:=⟨[0,1,5],[],[],[],[]⟩
def zse :St:=z1h [] [] []
def f67l3:z01:=⟨[],[],[],[],[]⟩
def zk2(a:Bool):St:=z1h [(4,xB a)] [] []
def f67l4:z01:=⟨[4],[],[],[],[]⟩
def f67B:Nat->Option z01:=z1i [(0,f67l3),(1000000,f67l4)]
abbrev f67j{ρ:Type}(N n:Nat)(σ:St)(l:z01)(K:KT ρ):Option ρ:=z0w f67G tab f67B N (z2o 99 (z1x Tryz.f67) n) .n σ (z1f (some l) K)
def f67t1 N a b (K:KT ρ):f67j N 2 (f67s0 a b) f67l1 K =
 z2x.Z1 N a b (λa b=>K .nrm (f67s1 a b)):=by kernel_rfl
def f67t3 N a b (K:KT ρ):f67j N 5 (f67s1 a b) f67l1 K =
 z2x.Z3 N a b (λa b=>K .nrm (f67s1 a b)) (λc=>K .ret (zk2 c)):=by kernel_rfl
def f67t6 N a b (K:KT ρ):f67j N 19 (f67s1 a b) f67l2 K =
 z2x.Z6 N a b (λa b c=>K .nrm (f67s2 a b c)):=by kernel_rfl
def f67t9 N a b c (K:KT ρ):f67j N 75 (f67s2 a b c) f67l2 K =
 z2x.Z9 N a b c (λa b c=>K .nrm (f67s2 a b c)) (K (.exit 0) zse) (λd=>K .ret (zk2 d)):=by kernel_rfl
def f67t8L N (K:KT ρ):=lp3 K (z2x.Z8L N (K (.exit 0) zse) (λa=>K .ret (zk2 a))) (λb c d k=>z2x.Z9 N b c d k (K (.exit 0) zse) (λa=>K .ret (zk2 a))) (λF b c d=>f67t9 N b c d _) (by kernel_rfl)
def f67t8 N a b c (K:KT ρ):=vL (f67s2 a b c) (f67t8L N (jK f67l3 K) N a b c) (by kernel_rfl)
def f67t7 N a b c (K:KT ρ):=vB 0 f67l3 K (z2x.Z7 N a b c (K .nrm zse) (λd=>K .ret (zk2 d))) (f67t8 N a b c _) (by kernel_rfl)
def f67t5 N a b (K:KT ρ):=vQ (λk=>z2x.Z6 N a b k) (f67t6 N a b _) (fx3 λa b c=>f67t7 N a b c K)
def f67t10 N  (K:KT ρ):f67j N 15 zse f67lE K =
 z2x.Z10 N (λa=>K .ret (zk2 a)):=by kernel_rfl
def f67t4 N a b (K:KT ρ):=vQ (λk=>z2x.Z5 N a b k (λc=>K .ret (zk2 c))) (f67t5 N a b _) (f67t10 N K)
def f67t2 N a b (K:KT ρ):=vQ (λk=>z2x.Z3 N a b k (λc=>K .ret (zk2 c))) (f67t3 N a b _) (fx2 λa b=>f67t4 N a b K)
def f67t0 N a b (K:KT ρ):=vQ (λk=>z2x.Z1 N a b k) (f67t1 N a b _) (fx2 λa b=>f67t2 N a b K)
def f67ok(h:z2x.Spec):z0l Tryz.prog 67 e67 :=
 okC Tryz.func67 z2w f67GOk (λN X K=>f67t0 N X.1 X.2.1 K) (by kernel_rfl) λX hb hp=>by
  obtain⟨a,b,_⟩:=X
  obtain⟨N,h⟩:=h a b hb.1 hb.2.1
  exact⟨N,Eq.trans (by kernel_rfl) (h N (Nat.le_refl N))⟩
def e67ok:z0l Tryz.prog 67 e67:=f67ok z2x.ok
end Go.Fw
namespace Go.Fw
variable {ρ : Type}
open Go.Proofs
def f26sig:Sig:=⟨[⟨.pair (.int .i64) (.pair (.int .i64) (.sl 3 (.int .i64))),true,false⟩,⟨.pair (.int .i64) (.pair (.int .i64) (.sl 3 (.int .i64))),true,false⟩],[⟨.bool,false,false⟩]⟩
def e26:z2j:=⟨f26sig,none,λX=>((),((z2c.g X.1 X.2.1),()))⟩
def f26G:Gm:=z3s z1v 67 e67
def f26GOk:GOk Tryz.prog f26G:=(GOk.nil).add e67ok (by kernel_rfl)
def f26lE:z01:=⟨[],[],[],[],[]⟩
def f26s0(a b:MT):St:=z2e f26sig.ps (a,(b,()))
def f26s1(a:Bool):St:=z1h [(4,xB a)] [] []
def f26l1:z01:=⟨[4],[],[],[],[]⟩
def f26B:Nat->Option z01:=z1i [(1000000,f26l1)]
abbrev f26j{ρ:Type}(N n:Nat)(σ:St)(l:z01)(K:KT ρ):Option ρ:=z0w f26G tab f26B N (z2o 99 (z1x Tryz.f26) n) .n σ (z1f (some l) K)
def f26t0 N a b (K:KT ρ):f26j N 1 (f26s0 a b) f26lE K =
 z2c.Z0 N a b (λc=>K .ret (f26s1 c)):=by kernel_rfl
def f26ok(h:z2c.Spec):z0l Tryz.prog 26 e26 :=
 okC Tryz.func26 z2w f26GOk (λN X K=>f26t0 N X.1 X.2.1 K) (by kernel_rfl) λX hb hp=>by
  obtain⟨a,b,_⟩:=X
  obtain⟨N,h⟩:=h a b hb.1 hb.2.1
  exact⟨N,Eq.trans (by kernel_rfl) (h N (Nat.le_refl N))⟩
def e26ok:z0l Tryz.prog 26 e26:=f26ok z2c.ok
end Go.Fw
namespace Go.Fw
variable {ρ : Type}
open Go.Proofs
def f68k:z9a:=⟨98,[(5,.int .u8)],.pair (.int .i64) (.int .i64)⟩
def f68ps:List PT:=[⟨.int .i64,false,false⟩,⟨.int .i64,false,false⟩]
def f68rs:List PT:=[⟨.sl 3 (.int .i64),false,false⟩]
def e68:z42:=⟨f68k,f68ps,true,f68rs,(some λX=>z1j.P X.1.1.1 X.1.2 X.2.1 X.2.2.1),λX=>((z1j.g X.1.1.1 X.1.2 X.2.1 X.2.2.1).1,((),((z1j.g X.1.1.1 X.1.2 X.2.1 X.2.2.1).2,())))⟩
def f68G:Gm:=addV z1v 96 e96
def f68GOk:GOk Tryz.prog f68G:=(GOk.nil).addV zf9 (by kernel_rfl)
def f68lE:z01:=⟨[],[],[],[],[]⟩
def f68s0(u0:Value)(b0:List Int)(r0:Int×Int)(a b:Int):St:=z33 f68k f68ps [u0] (((b0,()),r0),(a,(b,())))
def f68s1(u0:Value)(a b:Int)(c:List Int)(d e:Int):St:=z1h [(0,xb 100000),(1,xi a),(2,xi b),(100000,xb 100000)] [(100000,(98,[.bor u0 5 (.int .u8) c,yi d,yi e]))] []
def f68l1:z01:=⟨[0,1,2,100000],[100000],[],[],[]⟩
def f68s2(u0:Value)(a:LI)(b c:Int)(d:List Int)(e f:Int):St:=z1h [(0,xb 100000),(1,xi b),(2,xi c),(7,xo 1000448),(100000,xb 100000)] [(100000,(98,[.bor u0 5 (.int .u8) d,yi e,yi f]))] [(1000448,(⟨3,.int .i64,a,true,false⟩:Row))]
def f68l2:z01:=⟨[0,1,2,7,100000],[100000],[],[],[(⟨false,7,0⟩,1000448)]⟩
def f68s3(u0:Value)(a:LI)(b c:Int)(d:List Int)(e f:Int):St:=z1h [(0,xb 100000),(1,xi b),(7,xo 1000448),(8,xi c),(100000,xb 100000)] [(100000,(98,[.bor u0 5 (.int .u8) d,yi e,yi f]))] [(1000448,(⟨3,.int .i64,a,true,false⟩:Row))]
def f68l3:z01:=⟨[0,1,7,8,100000],[100000],[],[],[(⟨false,7,0⟩,1000448)]⟩
def f68s4(u0:Value)(a:LI)(b c d:Int)(e:List Int)(f g:Int):St:=z1h [(0,xb 100000),(1,xi b),(7,xo 1000448),(8,xi c),(9,xi d),(100000,xb 100000)] [(100000,(98,[.bor u0 5 (.int .u8) e,yi f,yi g]))] [(1000448,(⟨3,.int .i64,a,true,false⟩:Row))]
def f68l4:z01:=⟨[0,1,7,8,9,100000],[100000],[],[],[(⟨false,7,0⟩,1000448)]⟩
def zsd(u0:Value)(a:LI)(b:List Int)(c d:Int):St:=z1h [(7,xo 1000448),(100000,xb 100000)] [(100000,(98,[.bor u0 5 (.int .u8) b,yi c,yi d]))] [(1000448,(⟨3,.int .i64,a,true,false⟩:Row))]
def f68l5:z01:=⟨[7,100000],[100000],[],[],[(⟨false,7,0⟩,1000448)]⟩
def f68s6(u0:Value)(a:LI)(b:List Int)(c d:Int):St:=z1h [(6,xo 1000384),(100000,xb 100000)] [(100000,(98,[.bor u0 5 (.int .u8) b,yi c,yi d]))] [(1000384,(⟨3,.int .i64,a,true,false⟩:Row))]
def f68l6:z01:=⟨[6,100000],[100000],[],[],[(⟨false,6,0⟩,1000384)]⟩
def f68B:Nat->Option z01:=z1i [(0,f68l5),(1000000,f68l6)]
abbrev f68j{ρ:Type}(N n:Nat)(σ:St)(l:z01)(K:KT ρ):Option ρ:=z0w f68G tab f68B N (z2o 99 (z1x Tryz.f68) n) .n σ (z1f (some l) K)
def f68t1 N u0 b0 r0 a b (K:KT ρ):f68j N 2 (f68s0 u0 b0 r0 a b) f68l1 K =
 z1j.Z1 N b0 r0 a b (λa b c d e=>K .nrm (f68s1 u0 a b c d e)):=by kernel_rfl
def f68t3 N u0 a b c d e (K:KT ρ):f68j N 5 (f68s1 u0 a b c d e) f68l2 K =
 z1j.Z3 N a b c d e (λf a b c d e=>K .nrm (f68s2 u0 f a b c d e)):=by kernel_rfl
def f68t5 N u0 a b f c d e (K:KT ρ):f68j N 11 (f68s2 u0 a b f c d e) f68l3 K =
 z1j.Z5 N a b f c d e (λa b g c d e=>K .nrm (f68s3 u0 a b g c d e)):=by kernel_rfl
def f68t8 N u0 a b c d e f (K:KT ρ):f68j N 39 (f68s3 u0 a b c d e f) f68l4 K =
 z1j.Z8 N a b c d e f (λa b c g d e f=>K .nrm (f68s4 u0 a b c g d e f)):=by kernel_rfl
def f68t11 N u0 a e f g b c d (K:KT ρ):f68j N 151 (f68s4 u0 a e f g b c d) f68l4 K =
 z1j.Z11 N a e f g b c d (λa e f g b c d=>K .nrm (f68s4 u0 a e f g b c d)) (λa b c d=>K (.exit 0) (zsd u0 a b c d)):=by kernel_rfl
def f68t10L N u0 (K:KT ρ):=lp7 K (z1j.Z10L N (λa b c d=>K (.exit 0) (zsd u0 a b c d))) (λa e f g b c d k=>z1j.Z11 N a e f g b c d k (λa b c d=>K (.exit 0) (zsd u0 a b c d))) (λF a e f g b c d=>f68t11 N u0 a e f g b c d _) (by kernel_rfl)
def f68t10 N u0 a b c d e f g (K:KT ρ):=vL (f68s4 u0 a b c d e f g) (f68t10L N u0 (jK f68l5 K) N a b c d e f g) (by kernel_rfl)
def f68t9 N u0 a e f g b c d (K:KT ρ):=vB 0 f68l5 K (z1j.Z9 N a e f g b c d (λa b c d=>K .nrm (zsd u0 a b c d))) (f68t10 N u0 a e f g b c d _) (by kernel_rfl)
def f68t7 N u0 a b c d e f (K:KT ρ):=vQ (λk=>z1j.Z8 N a b c d e f k) (f68t8 N u0 a b c d e f _) (fx7 λa b c g d e f=>f68t9 N u0 a b c g d e f K)
def f68t12 N u0 d a b c (K:KT ρ):f68j N 31 (zsd u0 d a b c) f68lE K =
 z1j.Z12 N d a b c (λe a b c=>K .ret (f68s6 u0 e a b c)):=by kernel_rfl
def f68t6 N u0 a e f b c d (K:KT ρ):=vQ (λk=>z1j.Z7 N a e f b c d k) (f68t7 N u0 a e f b c d _) (fx4 λa b c d=>f68t12 N u0 a b c d K)
def f68t4 N u0 a b f c d e (K:KT ρ):=vQ (λk=>z1j.Z5 N a b f c d e k) (f68t5 N u0 a b f c d e _) (fx6 λa b g c d e=>f68t6 N u0 a b g c d e K)
def f68t2 N u0 a b c d e (K:KT ρ):=vQ (λk=>z1j.Z3 N a b c d e k) (f68t3 N u0 a b c d e _) (fx6 λf a b c d e=>f68t4 N u0 f a b c d e K)
def f68t0 N u0 b0 r0 a b (K:KT ρ):=vQ (λk=>z1j.Z1 N b0 r0 a b k) (f68t1 N u0 b0 r0 a b _) (fx5 λa b c d e=>f68t2 N u0 a b c d e K)
def f68ok(h:z1j.Spec):z24 Tryz.prog 68 e68 :=
 okV Tryz.func68 z2w f68GOk (λN u X K=>f68t0 N u X.1.1.1 X.1.2 X.2.1 X.2.2.1 K) (by kernel_rfl) λu0 X hb1 hb2 hp=>by
  obtain⟨⟨⟨b0,_⟩,r0⟩,a,b,_⟩:=X
  obtain⟨N,h⟩:=h [u0] b0 r0 a b hb1.1 hp
  exact⟨N,Eq.trans (by kernel_rfl) (h N (Nat.le_refl N))⟩
def e68ok:z24 Tryz.prog 68 e68:=f68ok z1j.ok
end Go.Fw
namespace Go.Fw
variable {ρ : Type}
open Go.Proofs
def f27sig:Sig:=⟨[⟨.sl 5 (.int .u8),false,false⟩],[⟨.pair (.int .i64) (.pair (.int .i64) (.sl 3 (.int .i64))),true,false⟩,⟨.sl 3 (.int .i64),false,false⟩]⟩
def e27:z2j:=⟨f27sig,none,λX=>((),((z1n.g X.1).1,((z1n.g X.1).2,())))⟩
def f27G:Gm:=addV (addV (addN z1v 54 e54) 56 e56) 68 e68
def f27GOk:GOk Tryz.prog f27G:=(((GOk.nil).addN e54ok).addV e56ok (by kernel_rfl)).addV e68ok (by kernel_rfl)
def f27lE:z01:=⟨[],[],[],[],[]⟩
def f27s0(a:List Int):St:=z2e f27sig.ps (a,())
def f27s1(a b:LI)(c d:Int):St:=z1h [(2,xb 2),(3,xo 1000192)] [(2,(27,[yi c,yi d,.own 20000130]))] [(1000192,(⟨3,.int .i64,a,true,false⟩:Row)),(20000130,(⟨3,.int .i64,b,true,false⟩:Row))]
def f27l1:z01:=⟨[2,3],[2],[],[],[(⟨false,3,0⟩,1000192),(⟨true,2,2⟩,20000130)]⟩
def f27B:Nat->Option z01:=z1i [(1000000,f27l1)]
abbrev f27j{ρ:Type}(N n:Nat)(σ:St)(l:z01)(K:KT ρ):Option ρ:=z0w f27G tab f27B N (z2o 99 (z1x Tryz.f27) n) .n σ (z1f (some l) K)
def f27t0 N a (K:KT ρ):f27j N 1 (f27s0 a) f27lE K =
 z1n.Z0 N a (λb c d e=>K .ret (f27s1 b c d e)):=by kernel_rfl
def f27ok(h:z1n.Spec):z0l Tryz.prog 27 e27 :=
 okC Tryz.func27 z2w f27GOk (λN X K=>f27t0 N X.1 K) (by kernel_rfl) λX hb hp=>by
  obtain⟨a,_⟩:=X
  obtain⟨N,h⟩:=h a hb.1
  exact⟨N,Eq.trans (by kernel_rfl) (h N (Nat.le_refl N))⟩
def e27ok:z0l Tryz.prog 27 e27:=f27ok z1n.ok
end Go.Fw
namespace Go.Fw
variable {ρ : Type}
open Go.Proofs
def f69sig:Sig:=⟨[⟨.sl 3 (.int .i64),false,false⟩],[⟨.sl 3 (.int .i64),false,false⟩]⟩
def e69:z2j:=⟨f69sig,(some λX=>z0f.P X.1),λX=>((),((z0f.g X.1),()))⟩
def f69G:Gm:=z1v
def f69GOk:GOk Tryz.prog f69G:=GOk.nil
def f69lE:z01:=⟨[],[],[],[],[]⟩
def f69s0(a:LI):St:=z2e f69sig.ps (a,())
def f69s1(a:LI):St:=z1h [(2,xo 1000128)] [] [(1000128,(⟨3,.int .i64,a,true,false⟩:Row))]
def f69l1:z01:=⟨[2],[],[⟨⟨false,2,0⟩,30000000,3,.int .i64,true⟩],[],[(⟨false,2,0⟩,1000128)]⟩
def f69B:Nat->Option z01:=z1i [(1000000,f69l1)]
abbrev f69j{ρ:Type}(N n:Nat)(σ:St)(l:z01)(K:KT ρ):Option ρ:=z0w f69G tab f69B N (z2o 99 (z1x Tryz.f69) n) .n σ (z1f (some l) K)
def f69t0 N a (K:KT ρ):f69j N 1 (f69s0 a) f69lE K =
 z0f.Z0 N a (λb=>K .ret (f69s1 b)):=by kernel_rfl
def f69ok(h:z0f.Spec):z0l Tryz.prog 69 e69 :=
 okC Tryz.func69 z2w f69GOk (λN X K=>f69t0 N X.1 K) (by kernel_rfl) λX hb hp=>by
  obtain⟨a,_⟩:=X
  obtain⟨N,h⟩:=h a hb.1 hp
  exact⟨N,Eq.trans (by kernel_rfl) (h N (Nat.le_refl N))⟩
def e69ok:z0l Tryz.prog 69 e69:=f69ok z0f.ok
end Go.Fw
namespace Go.Fw
variable {ρ : Type}
open Go.Proofs
def f28sig:Sig:=⟨[⟨.pair (.int .i64) (.pair (.int .i64) (.sl 3 (.int .i64))),true,false⟩],[⟨.pair (.int .i64) (.pair (.int .i64) (.sl 3 (.int .i64))),true,false⟩,⟨.bool,false,false⟩]⟩
def e28:z2j:=⟨f28sig,none,λX=>((),((z07.g X.1).1,((z07.g X.1).2,())))⟩
def f28G:Gm:=z3s (z3s z1v 63 e63) 69 e69
def f28GOk:GOk Tryz.prog f28G:=((GOk.nil).add zps (by kernel_rfl)).add e69ok (by kernel_rfl)
def f28lE:z01:=⟨[],[],[],[],[]⟩
def f28s0(a:MT):St:=z2e f28sig.ps (a,())
def f28s1(a b:Int)(c:LI)(d e:Int):St:=z1h [(1,xb 1),(2,xb 2)] [(1,(27,[yi a,yi b,.sn 3 tI c none])),(2,(27,[yi d,yi e,.nil]))] []
def f28l1:z01:=⟨[1,2],[1,2],[],[],[]⟩
def f28s2(a:LI)(b c:Int)(d:LI)(e f g h:Int):St:=z1h [(1,xb 1),(2,xb 2),(4,xb 4)] [(1,(27,[yi b,yi c,.sn 3 tI d none])),(2,(27,[yi e,yi f,.nil])),(4,(27,[yi g,yi h,.own 20000258]))] [(20000258,(⟨3,.int .i64,a,true,false⟩:Row))]
def f28l2:z01:=⟨[1,2,4],[1,2,4],[],[],[(⟨true,4,2⟩,20000258)]⟩
def zcy(a:LI)(b c d:Int)(e:LI)(f g h i:Int):St:=z1h [(1,xb 1),(2,xb 2),(4,xb 4),(5,xi b)] [(1,(27,[yi c,yi d,.sn 3 tI e none])),(2,(27,[yi f,yi g,.nil])),(4,(27,[yi h,yi i,.own 20000258]))] [(20000258,(⟨3,.int .i64,a,true,false⟩:Row))]
def zk9:z01:=⟨[1,2,4,5],[1,2,4],[],[],[(⟨true,4,2⟩,20000258)]⟩
def f28s4(a:LI)(b c d e:Int)(f:LI)(g h i j:Int):St:=z1h [(1,xb 1),(2,xb 2),(4,xb 4),(5,xi b),(6,xi c)] [(1,(27,[yi d,yi e,.sn 3 tI f none])),(2,(27,[yi g,yi h,.nil])),(4,(27,[yi i,yi j,.own 20000258]))] [(20000258,(⟨3,.int .i64,a,true,false⟩:Row))]
def f28l4:z01:=⟨[1,2,4,5,6],[1,2,4],[],[],[(⟨true,4,2⟩,20000258)]⟩
def zpn(a:LI)(b c d e:Int):St:=z1h [(2,xb 2),(4,xb 4)] [(2,(27,[yi b,yi c,.nil])),(4,(27,[yi d,yi e,.own 20000258]))] [(20000258,(⟨3,.int .i64,a,true,false⟩:Row))]
def f28l5:z01:=⟨[2,4],[2,4],[],[],[(⟨true,4,2⟩,20000258)]⟩
def f28s6(a:LI)(b:Bool)(c d:Int):St:=z1h [(2,xb 2),(3,xB b)] [(2,(27,[yi c,yi d,.own 20000130]))] [(20000130,(⟨3,.int .i64,a,true,false⟩:Row))]
def f28l6:z01:=⟨[2,3],[2],[⟨⟨true,2,2⟩,30000000,3,.int .i64,true⟩],[],[(⟨true,2,2⟩,20000130)]⟩
def f28B:Nat->Option z01:=z1i [(2,zk9),(1,zk9),(0,f28l5),(1000000,f28l6)]
abbrev f28j{ρ:Type}(N n:Nat)(σ:St)(l:z01)(K:KT ρ):Option ρ:=z0w f28G tab f28B N (z2o 99 (z1x Tryz.f28) n) .n σ (z1f (some l) K)
def f28t1 N a (K:KT ρ):f28j N 2 (f28s0 a) f28l1 K =
 z07.Z1 N a (λb c d e f=>K .nrm (f28s1 b c d e f)):=by kernel_rfl
def f28t3 N c d e a b (K:KT ρ):f28j N 5 (f28s1 c d e a b) f28l1 K =
 z07.Z3 N c d e a b (λc d e a b=>K .nrm (f28s1 c d e a b)) (λf g a b=>K .ret (f28s6 f g a b)):=by kernel_rfl
def f28t5 N a b c d e (K:KT ρ):f28j N 11 (f28s1 a b c d e) f28l2 K =
 z07.Z5 N a b c d e (λf a b c d e g h=>K .nrm (f28s2 f a b c d e g h)):=by kernel_rfl
def f28t8 N a b c d e f g h (K:KT ρ):f28j N 39 (f28s2 a b c d e f g h) zk9 K =
 z07.Z8 N a b c d e f g h (λa i b c d e f g h=>K .nrm (zcy a i b c d e f g h)):=by kernel_rfl
def f28t12 N a f g h i b c d e (K:KT ρ):f28j N 279 (zcy a f g h i b c d e) zk9 K =
 z07.Z12 N a f g h i b c d e (λa f g h i b c d e=>K .nrm (zcy a f g h i b c d e)) (λa b c d e=>K (.exit 0) (zpn a b c d e)):=by kernel_rfl
def f28t16 N a b c d e f g h i (K:KT ρ):f28j N 2199 (zcy a b c d e f g h i) f28l4 K =
 z07.Z16 N a b c d e f g h i (λa b j c d e f g h i=>K .nrm (f28s4 a b j c d e f g h i)):=by kernel_rfl
def f28t19 N a b j c d e f g h i (K:KT ρ):f28j N 9367 (f28s4 a b j c d e f g h i) f28l4 K =
 z07.Z19 N a b j c d e f g h i (λa b j c d e f g h i=>K .nrm (f28s4 a b j c d e f g h i)) (λa b c d e f g h i=>K (.exit 2) (zcy a b c d e f g h i)):=by kernel_rfl
def f28t18L N (K:KT ρ):=lp10 K (z07.Z18L N (λa b c d e f g h i=>K (.exit 2) (zcy a b c d e f g h i))) (λa b j c d e f g h i k=>z07.Z19 N a b j c d e f g h i k (λa b c d e f g h i=>K (.exit 2) (zcy a b c d e f g h i))) (λF a b j c d e f g h i=>f28t19 N a b j c d e f g h i _) (by kernel_rfl)
def f28t18 N a b c d e f g h i j (K:KT ρ):=vL (f28s4 a b c d e f g h i j) (f28t18L N (jK zk9 K) N a b c d e f g h i j) (by kernel_rfl)
def f28t17 N a b j c d e f g h i (K:KT ρ):=vB 2 zk9 K (z07.Z17 N a b j c d e f g h i (λa b c d e f g h i=>K .nrm (zcy a b c d e f g h i))) (f28t18 N a b j c d e f g h i _) (by kernel_rfl)
def f28t15 N a b c d e f g h i (K:KT ρ):=vQ (λk=>z07.Z16 N a b c d e f g h i k) (f28t16 N a b c d e f g h i _) (zf1 λa b j c d e f g h i=>f28t17 N a b j c d e f g h i K)
def f28t14 N a b c d e f g h i (K:KT ρ):=vB 1 zk9 K (z07.Z14 N a b c d e f g h i (λa b c d e f g h i=>K .nrm (zcy a b c d e f g h i))) (f28t15 N a b c d e f g h i _) (by kernel_rfl)
def f28t20 N a b c d e f g h i (K:KT ρ):f28j N 919 (zcy a b c d e f g h i) zk9 K =
 z07.Z20 N a b c d e f g h i (λa b c d e f g h i=>K .nrm (zcy a b c d e f g h i)):=by kernel_rfl
def f28t13 N a b c d e f g h i (K:KT ρ):=vQ (λk=>z07.Z14 N a b c d e f g h i k) (f28t14 N a b c d e f g h i _) (fx9 λa b c d e f g h i=>f28t20 N a b c d e f g h i K)
def f28t11 N a f g h i b c d e (K:KT ρ):=vQ (λk=>z07.Z12 N a f g h i b c d e k (λa b c d e=>K (.exit 0) (zpn a b c d e))) (f28t12 N a f g h i b c d e _) (fx9 λa f g h i b c d e=>f28t13 N a f g h i b c d e K)
def f28t10L N (K:KT ρ):=lp9 K (z07.Z10L N (λa b c d e=>K (.exit 0) (zpn a b c d e))) (λa f g h i b c d e k=>z07.Z11 N a f g h i b c d e k (λa b c d e=>K (.exit 0) (zpn a b c d e))) (λF a f g h i b c d e=>f28t11 N a f g h i b c d e _) (by kernel_rfl)
def f28t10 N a b c d e f g h i (K:KT ρ):=vL (zcy a b c d e f g h i) (f28t10L N (jK f28l5 K) N a b c d e f g h i) (by kernel_rfl)
def f28t9 N a f g h i b c d e (K:KT ρ):=vB 0 f28l5 K (z07.Z9 N a f g h i b c d e (λa b c d e=>K .nrm (zpn a b c d e))) (f28t10 N a f g h i b c d e _) (by kernel_rfl)
def f28t7 N a b c d e f g h (K:KT ρ):=vQ (λk=>z07.Z8 N a b c d e f g h k) (f28t8 N a b c d e f g h _) (fx9 λa i b c d e f g h=>f28t9 N a i b c d e f g h K)
def f28t21 N c a b d e (K:KT ρ):f28j N 31 (zpn c a b d e) f28lE K =
 z07.Z21 N c a b d e (λf g a b=>K .ret (f28s6 f g a b)):=by kernel_rfl
def f28t6 N a f g h b c d e (K:KT ρ):=vQ (λk=>z07.Z7 N a f g h b c d e k) (f28t7 N a f g h b c d e _) (fx5 λa b c d e=>f28t21 N a b c d e K)
def f28t4 N a b c d e (K:KT ρ):=vQ (λk=>z07.Z5 N a b c d e k) (f28t5 N a b c d e _) (fx8 λf a b c d e g h=>f28t6 N f a b c d e g h K)
def f28t2 N c d e a b (K:KT ρ):=vQ (λk=>z07.Z3 N c d e a b k (λf g a b=>K .ret (f28s6 f g a b))) (f28t3 N c d e a b _) (fx5 λc d e a b=>f28t4 N c d e a b K)
def f28t0 N a (K:KT ρ):=vQ (λk=>z07.Z1 N a k) (f28t1 N a _) (fx5 λb c d e f=>f28t2 N b c d e f K)
def f28ok(h:z07.Spec):z0l Tryz.prog 28 e28 :=
 okC Tryz.func28 z2w f28GOk (λN X K=>f28t0 N X.1 K) (by kernel_rfl) λX hb hp=>by
  obtain⟨a,_⟩:=X
  obtain⟨N,h⟩:=h a hb.1
  exact⟨N,Eq.trans (by kernel_rfl) (h N (Nat.le_refl N))⟩
def e28ok:z0l Tryz.prog 28 e28:=f28ok z07.ok
end Go.Fw
namespace Go.Fw
variable {ρ : Type}
open Go.Proofs
def f92sig:Sig:=⟨[⟨.pair (.int .i64) (.pair (.int .i64) (.sl 3 (.int .i64))),true,false⟩,⟨.int .i64,false,false⟩],[⟨.pair (.int .i64) (.pair (.int .i64) (.sl 3 (.int .i64))),true,false⟩]⟩
def e92:z2j:=⟨f92sig,(some λX=>z0n.P X.1 X.2.1),λX=>((),((z0n.g X.1 X.2.1),()))⟩
def f92G:Gm:=z3s (z3s z1v 69 e69) 83 e83
def f92GOk:GOk Tryz.prog f92G:=((GOk.nil).add e69ok (by kernel_rfl)).add e83ok (by kernel_rfl)
def f92lE:z01:=⟨[],[],[],[],[]⟩
def f92s0(a:MT)(b:Int):St:=z2e f92sig.ps (a,(b,()))
def f92s1(a b c:Int)(d:LI)(e f:Int):St:=z1h [(1,xi a),(2,xb 2),(4,xb 4)] [(2,(27,[yi b,yi c,.sn 3 tI d none])),(4,(27,[yi e,yi f,.nil]))] []
def f92l1:z01:=⟨[1,2,4],[2,4],[],[],[]⟩
def f92s2(a:LI)(b c d:Int)(e:LI)(f g h i:Int):St:=z1h [(1,xi b),(2,xb 2),(4,xb 4),(5,xb 5)] [(2,(27,[yi c,yi d,.sn 3 tI e none])),(4,(27,[yi f,yi g,.nil])),(5,(27,[yi h,yi i,.own 20000322]))] [(20000322,(⟨3,.int .i64,a,true,false⟩:Row))]
def f92l2:z01:=⟨[1,2,4,5],[2,4,5],[],[],[(⟨true,5,2⟩,20000322)]⟩
def zbm(a:LI)(b c d e:Int)(f:LI)(g h i j:Int):St:=z1h [(1,xi b),(2,xb 2),(4,xb 4),(5,xb 5),(6,xi c)] [(2,(27,[yi d,yi e,.sn 3 tI f none])),(4,(27,[yi g,yi h,.nil])),(5,(27,[yi i,yi j,.own 20000322]))] [(20000322,(⟨3,.int .i64,a,true,false⟩:Row))]
def zjx:z01:=⟨[1,2,4,5,6],[2,4,5],[],[],[(⟨true,5,2⟩,20000322)]⟩
def zf2(a:LI)(b c d e f:Int)(g:LI)(h i j l:Int):St:=z1h [(1,xi b),(2,xb 2),(4,xb 4),(5,xb 5),(6,xi c),(7,xi d)] [(2,(27,[yi e,yi f,.sn 3 tI g none])),(4,(27,[yi h,yi i,.nil])),(5,(27,[yi j,yi l,.own 20000322]))] [(20000322,(⟨3,.int .i64,a,true,false⟩:Row))]
def zjw:z01:=⟨[1,2,4,5,6,7],[2,4,5],[],[],[(⟨true,5,2⟩,20000322)]⟩
def f92s5(a:LI)(b d e f g h:Int)(i:LI)(j l m o:Int):St:=z1h [(1,xi b),(2,xb 2),(4,xb 4),(5,xb 5),(6,xi d),(7,xi e),(8,.c (.elt 20000322 f 0))] [(2,(27,[yi g,yi h,.sn 3 tI i none])),(4,(27,[yi j,yi l,.nil])),(5,(27,[yi m,yi o,.own 20000322]))] [(20000322,(⟨3,.int .i64,a,true,false⟩:Row))]
def f92l5:z01:=⟨[1,2,4,5,6,7,8],[2,4,5],[],[],[(⟨true,5,2⟩,20000322)]⟩
def f92s6(a:LI)(b d e f g h i j:Int)(l:LI)(m o p q:Int):St:=z1h [(1,xi b),(2,xb 2),(4,xb 4),(5,xb 5),(6,xi d),(7,xi e),(8,.c (.elt 20000322 f 0)),(9,xi g),(10,xi h)] [(2,(27,[yi i,yi j,.sn 3 tI l none])),(4,(27,[yi m,yi o,.nil])),(5,(27,[yi p,yi q,.own 20000322]))] [(20000322,(⟨3,.int .i64,a,true,false⟩:Row))]
def f92l6:z01:=⟨[1,2,4,5,6,7,8,9,10],[2,4,5],[],[],[(⟨true,5,2⟩,20000322)]⟩
def f92s7(a:LI)(b d e f g h:Int)(i:Bool)(j l:Int)(m:LI)(o p q r:Int):St:=z1h [(1,xi b),(2,xb 2),(4,xb 4),(5,xb 5),(6,xi d),(7,xi e),(8,.c (.elt 20000322 f 0)),(9,xi g),(10,xi h),(48,xB i)] [(2,(27,[yi j,yi l,.sn 3 tI m none])),(4,(27,[yi o,yi p,.nil])),(5,(27,[yi q,yi r,.own 20000322]))] [(20000322,(⟨3,.int .i64,a,true,false⟩:Row))]
def f92l7:z01:=⟨[1,2,4,5,6,7,8,9,10,48],[2,4,5],[],[],[(⟨true,5,2⟩,20000322)]⟩
def zpf(a:LI)(b c d e:Int):St:=z1h [(4,xb 4),(5,xb 5)] [(4,(27,[yi b,yi c,.nil])),(5,(27,[yi d,yi e,.own 20000322]))] [(20000322,(⟨3,.int .i64,a,true,false⟩:Row))]
def f92l8:z01:=⟨[4,5],[4,5],[],[],[(⟨true,5,2⟩,20000322)]⟩
def f92s9(a:LI)(b c:Int):St:=z1h [(4,xb 4)] [(4,(27,[yi b,yi c,.own 20000258]))] [(20000258,(⟨3,.int .i64,a,true,false⟩:Row))]
def f92l9:z01:=⟨[4],[4],[],[],[(⟨true,4,2⟩,20000258)]⟩
def f92B:Nat->Option z01:=z1i [(4,zjw),(3,zjw),(2,zjx),(1,zjx),(0,f92l8),(1000000,f92l9)]
abbrev zpg{ρ:Type}(N n:Nat)(σ:St)(l:z01)(K:KT ρ):Option ρ:=z0w f92G tab f92B N (z2o 99 (z1x Tryz.f92) n) .n σ (z1f (some l) K)
def f92t1 N b a (K:KT ρ):zpg N 2 (f92s0 b a) f92l1 K =
 z0n.Z1 N b a (λa c d e f g=>K .nrm (f92s1 a c d e f g)):=by kernel_rfl
def f92t3 N a b c d e f (K:KT ρ):zpg N 5 (f92s1 a b c d e f) f92l2 K =
 z0n.Z3 N a b c d e f (λg a b c d e f h i=>K .nrm (f92s2 g a b c d e f h i)):=by kernel_rfl
def f92t6 N a b c d e f g h i (K:KT ρ):zpg N 19 (f92s2 a b c d e f g h i) zjx K =
 z0n.Z6 N a b c d e f g h i (λa b j c d e f g h i=>K .nrm (zbm a b j c d e f g h i)):=by kernel_rfl
def f92t10 N a f g h i j b c d e (K:KT ρ):zpg N 139 (zbm a f g h i j b c d e) zjx K =
 z0n.Z10 N a f g h i j b c d e (λa f g h i j b c d e=>K .nrm (zbm a f g h i j b c d e)) (λa b c d e=>K (.exit 0) (zpf a b c d e)):=by kernel_rfl
def f92t14 N a b c d e f g h i j (K:KT ρ):zpg N 1099 (zbm a b c d e f g h i j) zjw K =
 z0n.Z14 N a b c d e f g h i j (λa b c l d e f g h i j=>K .nrm (zf2 a b c l d e f g h i j)):=by kernel_rfl
def f92t18 N a b c l d e f g h i j (K:KT ρ):zpg N 8779 (zf2 a b c l d e f g h i j) zjw K =
 z0n.Z18 N a b c l d e f g h i j (λa b c l d e f g h i j=>K .nrm (zf2 a b c l d e f g h i j)) (λa b c d e f g h i j=>K (.exit 2) (zbm a b c d e f g h i j)):=by kernel_rfl
def f92t22 N a b c d e f g h i j l (K:KT ρ):zpg N 70219 (zf2 a b c d e f g h i j l) f92l5 K =
 z0n.Z22 N a b c d e f g h i j l (λa b c d m e f g h i j l=>K .nrm (f92s5 a b c d m e f g h i j l)):=by kernel_rfl
def f92t24 N a b c d e f g h i j l m (K:KT ρ):zpg N 168523 (f92s5 a b c d e f g h i j l m) f92l6 K =
 z0n.Z24 N a b c d e f g h i j l m (λa b c d e o p f g h i j l m=>K .nrm (f92s6 a b c d e o p f g h i j l m)):=by kernel_rfl
def f92t27 N a b c d e f g h i j l m o p (K:KT ρ):zpg N 627275 (f92s6 a b c d e f g h i j l m o p) f92l7 K =
 z0n.Z27 N a b c d e f g h i j l m o p (λa b c d e f g q h i j l m o p=>K .nrm (f92s7 a b c d e f g q h i j l m o p)):=by kernel_rfl
def f92t28 N a b c d m o p q e f g h i j l (K:KT ρ):zpg N 889419 (f92s7 a b c d m o p q e f g h i j l) zjw K =
 z0n.Z28 N a b c d m o p q e f g h i j l (λa b c d e f g h i j l=>K .nrm (zf2 a b c d e f g h i j l)):=by kernel_rfl
def f92t26 N a b c d e f g h i j l m o p (K:KT ρ):=vQ (λk=>z0n.Z27 N a b c d e f g h i j l m o p k) (f92t27 N a b c d e f g h i j l m o p _) (fx15 λa b c d e f g q h i j l m o p=>f92t28 N a b c d e f g q h i j l m o p K)
def f92t25 N a b c d m o p e f g h i j l (K:KT ρ):=vB 4 zjw K (z0n.Z25 N a b c d m o p e f g h i j l (λa b c d e f g h i j l=>K .nrm (zf2 a b c d e f g h i j l))) (f92t26 N a b c d m o p e f g h i j l _) (by kernel_rfl)
def f92t23 N a b c d e f g h i j l m (K:KT ρ):=vQ (λk=>z0n.Z24 N a b c d e f g h i j l m k) (f92t24 N a b c d e f g h i j l m _) (fx14 λa b c d e o p f g h i j l m=>f92t25 N a b c d e o p f g h i j l m K)
def f92t21 N a b c d e f g h i j l (K:KT ρ):=vQ (λk=>z0n.Z22 N a b c d e f g h i j l k) (f92t22 N a b c d e f g h i j l _) (fx12 λa b c d m e f g h i j l=>f92t23 N a b c d m e f g h i j l K)
def f92t20 N a b c d e f g h i j l (K:KT ρ):=vB 3 zjw K (z0n.Z20 N a b c d e f g h i j l (λa b c d e f g h i j l=>K .nrm (zf2 a b c d e f g h i j l))) (f92t21 N a b c d e f g h i j l _) (by kernel_rfl)
def f92t29 N a b c d e f g h i j l (K:KT ρ):zpg N 29259 (zf2 a b c d e f g h i j l) zjw K =
 z0n.Z29 N a b c d e f g h i j l (λa b c d e f g h i j l=>K .nrm (zf2 a b c d e f g h i j l)):=by kernel_rfl
def f92t19 N a b c d e f g h i j l (K:KT ρ):=vQ (λk=>z0n.Z20 N a b c d e f g h i j l k) (f92t20 N a b c d e f g h i j l _) (zq7 λa b c d e f g h i j l=>f92t29 N a b c d e f g h i j l K)
def f92t17 N a b c l d e f g h i j (K:KT ρ):=vQ (λk=>z0n.Z18 N a b c l d e f g h i j k (λa b c d e f g h i j=>K (.exit 2) (zbm a b c d e f g h i j))) (f92t18 N a b c l d e f g h i j _) (zq7 λa b c l d e f g h i j=>f92t19 N a b c l d e f g h i j K)
def f92t16L N (K:KT ρ):=lp11 K (z0n.Z16L N (λa b c d e f g h i j=>K (.exit 2) (zbm a b c d e f g h i j))) (λa b c l d e f g h i j k=>z0n.Z17 N a b c l d e f g h i j k (λa b c d e f g h i j=>K (.exit 2) (zbm a b c d e f g h i j))) (λF a b c l d e f g h i j=>f92t17 N a b c l d e f g h i j _) (by kernel_rfl)
def f92t16 N a b c d e f g h i j l (K:KT ρ):=vL (zf2 a b c d e f g h i j l) (f92t16L N (jK zjx K) N a b c d e f g h i j l) (by kernel_rfl)
def f92t15 N a b c l d e f g h i j (K:KT ρ):=vB 2 zjx K (z0n.Z15 N a b c l d e f g h i j (λa b c d e f g h i j=>K .nrm (zbm a b c d e f g h i j))) (f92t16 N a b c l d e f g h i j _) (by kernel_rfl)
def f92t13 N a b c d e f g h i j (K:KT ρ):=vQ (λk=>z0n.Z14 N a b c d e f g h i j k) (f92t14 N a b c d e f g h i j _) (zq7 λa b c l d e f g h i j=>f92t15 N a b c l d e f g h i j K)
def f92t12 N a b c d e f g h i j (K:KT ρ):=vB 1 zjx K (z0n.Z12 N a b c d e f g h i j (λa b c d e f g h i j=>K .nrm (zbm a b c d e f g h i j))) (f92t13 N a b c d e f g h i j _) (by kernel_rfl)
def f92t30 N a b c d e f g h i j (K:KT ρ):zpg N 459 (zbm a b c d e f g h i j) zjx K =
 z0n.Z30 N a b c d e f g h i j (λa b c d e f g h i j=>K .nrm (zbm a b c d e f g h i j)):=by kernel_rfl
def f92t11 N a b c d e f g h i j (K:KT ρ):=vQ (λk=>z0n.Z12 N a b c d e f g h i j k) (f92t12 N a b c d e f g h i j _) (zf1 λa b c d e f g h i j=>f92t30 N a b c d e f g h i j K)
def f92t9 N a f g h i j b c d e (K:KT ρ):=vQ (λk=>z0n.Z10 N a f g h i j b c d e k (λa b c d e=>K (.exit 0) (zpf a b c d e))) (f92t10 N a f g h i j b c d e _) (zf1 λa f g h i j b c d e=>f92t11 N a f g h i j b c d e K)
def f92t8L N (K:KT ρ):=lp10 K (z0n.Z8L N (λa b c d e=>K (.exit 0) (zpf a b c d e))) (λa f g h i j b c d e k=>z0n.Z9 N a f g h i j b c d e k (λa b c d e=>K (.exit 0) (zpf a b c d e))) (λF a f g h i j b c d e=>f92t9 N a f g h i j b c d e _) (by kernel_rfl)
def f92t8 N a b c d e f g h i j (K:KT ρ):=vL (zbm a b c d e f g h i j) (f92t8L N (jK f92l8 K) N a b c d e f g h i j) (by kernel_rfl)
def f92t7 N a f g h i j b c d e (K:KT ρ):=vB 0 f92l8 K (z0n.Z7 N a f g h i j b c d e (λa b c d e=>K .nrm (zpf a b c d e))) (f92t8 N a f g h i j b c d e _) (by kernel_rfl)
def f92t5 N a b c d e f g h i (K:KT ρ):=vQ (λk=>z0n.Z6 N a b c d e f g h i k) (f92t6 N a b c d e f g h i _) (zf1 λa b j c d e f g h i=>f92t7 N a b j c d e f g h i K)
def f92t31 N c a b d e (K:KT ρ):zpg N 15 (zpf c a b d e) f92lE K =
 z0n.Z31 N c a b d e (λf a b=>K .ret (f92s9 f a b)):=by kernel_rfl
def f92t4 N a f g h i b c d e (K:KT ρ):=vQ (λk=>z0n.Z5 N a f g h i b c d e k) (f92t5 N a f g h i b c d e _) (fx5 λa b c d e=>f92t31 N a b c d e K)
def f92t2 N a b c d e f (K:KT ρ):=vQ (λk=>z0n.Z3 N a b c d e f k) (f92t3 N a b c d e f _) (fx9 λg a b c d e f h i=>f92t4 N g a b c d e f h i K)
def f92t0 N b a (K:KT ρ):=vQ (λk=>z0n.Z1 N b a k) (f92t1 N b a _) (fx6 λa c d e f g=>f92t2 N a c d e f g K)
def f92ok(h:z0n.Spec):z0l Tryz.prog 92 e92 :=
 okC Tryz.func92 z2w f92GOk (λN X K=>f92t0 N X.1 X.2.1 K) (by kernel_rfl) λX hb hp=>by
  obtain⟨a,b,_⟩:=X
  obtain⟨N,h⟩:=h a b hb.1 hp
  exact⟨N,Eq.trans (by kernel_rfl) (h N (Nat.le_refl N))⟩
def e92ok:z0l Tryz.prog 92 e92:=f92ok z0n.ok
end Go.Fw
namespace Go.Fw
variable {ρ : Type}
open Go.Proofs
def f48sig:Sig:=⟨[⟨.pair (.int .i64) (.pair (.int .i64) (.sl 3 (.int .i64))),true,false⟩,⟨.int .i64,false,false⟩],[⟨.pair (.int .i64) (.pair (.int .i64) (.sl 3 (.int .i64))),true,false⟩,⟨.bool,false,false⟩]⟩
def e48:z2j:=⟨f48sig,none,λX=>((),((z0g.g X.1 X.2.1).1,((z0g.g X.1 X.2.1).2,())))⟩
def f48G:Gm:=z3s (z3s (z3s z1v 63 e63) 91 e91) 92 e92
def f48GOk:GOk Tryz.prog f48G:=(((GOk.nil).add zps (by kernel_rfl)).add e91ok (by kernel_rfl)).add e92ok (by kernel_rfl)
def f48lE:z01:=⟨[],[],[],[],[]⟩
def f48s0(a:MT)(b:Int):St:=z2e f48sig.ps (a,(b,()))
def f48s1(a:LI)(b:Bool)(c d:Int):St:=z1h [(4,xb 4),(5,xB b)] [(4,(27,[yi c,yi d,.own 20000258]))] [(20000258,(⟨3,.int .i64,a,true,false⟩:Row))]
def f48l1:z01:=⟨[4,5],[4],[⟨⟨true,4,2⟩,30000000,3,.int .i64,true⟩],[],[(⟨true,4,2⟩,20000258)]⟩
def f48B:Nat->Option z01:=z1i [(1000000,f48l1)]
abbrev f48j{ρ:Type}(N n:Nat)(σ:St)(l:z01)(K:KT ρ):Option ρ:=z0w f48G tab f48B N (z2o 99 (z1x Tryz.f48) n) .n σ (z1f (some l) K)
def f48t0 N a b (K:KT ρ):f48j N 1 (f48s0 a b) f48lE K =
 z0g.Z0 N a b (λc d e f=>K .ret (f48s1 c d e f)):=by kernel_rfl
def f48ok(h:z0g.Spec):z0l Tryz.prog 48 e48 :=
 okC Tryz.func48 z2w f48GOk (λN X K=>f48t0 N X.1 X.2.1 K) (by kernel_rfl) λX hb hp=>by
  obtain⟨a,b,_⟩:=X
  obtain⟨N,h⟩:=h a b hb.1
  exact⟨N,Eq.trans (by kernel_rfl) (h N (Nat.le_refl N))⟩
def e48ok:z0l Tryz.prog 48 e48:=f48ok z0g.ok
end Go.Fw
namespace Go.Fw
variable {ρ : Type}
open Go.Proofs
def f29sig:Sig:=⟨[⟨.pair (.int .i64) (.pair (.int .i64) (.sl 3 (.int .i64))),true,false⟩,⟨.sl 3 (.int .i64),false,false⟩],[⟨.pair (.int .i64) (.pair (.int .i64) (.sl 3 (.int .i64))),true,false⟩,⟨.bool,false,false⟩]⟩
def e29:z2j:=⟨f29sig,none,λX=>((),((z0k.g X.1 X.2.1).1,((z0k.g X.1 X.2.1).2,())))⟩
def f29G:Gm:=z3s (z3s (z3s z1v 48 e48) 63 e63) 69 e69
def f29GOk:GOk Tryz.prog f29G:=(((GOk.nil).add e48ok (by kernel_rfl)).add zps (by kernel_rfl)).add e69ok (by kernel_rfl)
def f29lE:z01:=⟨[],[],[],[],[]⟩
def f29s0(a:MT)(b:LI):St:=z2e f29sig.ps (a,(b,()))
def f29s1(a:LI)(b d:Int)(e:LI)(f g:Int):St:=z1h [(1,.c (.sn 3 tI a none)),(2,xb 2),(4,xb 4)] [(2,(27,[yi b,yi d,.sn 3 tI e none])),(4,(27,[yi f,yi g,.nil]))] []
def f29l1:z01:=⟨[1,2,4],[2,4],[],[],[]⟩
def f29s2(a b:LI)(d e f g:Int):St:=z1h [(1,.c (.sn 3 tI b none)),(4,xb 4),(6,xb 6)] [(4,(27,[yi d,yi e,.nil])),(6,(27,[yi f,yi g,.own 20000386]))] [(20000386,(⟨3,.int .i64,a,true,false⟩:Row))]
def f29l2:z01:=⟨[1,4,6],[4,6],[],[],[(⟨true,6,2⟩,20000386)]⟩
def f29s3(a b:LI)(d e f g h i:Int):St:=z1h [(4,xb 4),(6,xb 6),(27,.c (.sn 3 tI b none)),(28,xi d),(29,xi e)] [(4,(27,[yi f,yi g,.nil])),(6,(27,[yi h,yi i,.own 20000386]))] [(20000386,(⟨3,.int .i64,a,true,false⟩:Row))]
def f29l3:z01:=⟨[4,6,27,28,29],[4,6],[],[],[(⟨true,6,2⟩,20000386)]⟩
def zso(a:LI)(b c d e:Int):St:=z1h [(4,xb 4),(6,xb 6)] [(4,(27,[yi b,yi c,.nil])),(6,(27,[yi d,yi e,.own 20000386]))] [(20000386,(⟨3,.int .i64,a,true,false⟩:Row))]
def f29l4:z01:=⟨[4,6],[4,6],[],[],[(⟨true,6,2⟩,20000386)]⟩
def zk8(a:LI)(b:Bool)(c d:Int):St:=z1h [(4,xb 4),(5,xB b)] [(4,(27,[yi c,yi d,.own 20000258]))] [(20000258,(⟨3,.int .i64,a,true,false⟩:Row))]
def f29l5:z01:=⟨[4,5],[4],[⟨⟨true,4,2⟩,30000000,3,.int .i64,true⟩],[],[(⟨true,4,2⟩,20000258)]⟩
def f29B:Nat->Option z01:=z1i [(0,f29l4),(1000000,f29l5)]
abbrev f29j{ρ:Type}(N n:Nat)(σ:St)(l:z01)(K:KT ρ):Option ρ:=z0w f29G tab f29B N (z2o 99 (z1x Tryz.f29) n) .n σ (z1f (some l) K)
def f29t1 N b a (K:KT ρ):f29j N 2 (f29s0 b a) f29l1 K =
 z0k.Z1 N b a (λa c d e f g=>K .nrm (f29s1 a c d e f g)):=by kernel_rfl
def f29t3 N c d e f a b (K:KT ρ):f29j N 5 (f29s1 c d e f a b) f29l1 K =
 z0k.Z3 N c d e f a b (λc d e f a b=>K .nrm (f29s1 c d e f a b)) (λg h a b=>K .ret (zk8 g h a b)):=by kernel_rfl
def f29t5 N a d e f b c (K:KT ρ):f29j N 11 (f29s1 a d e f b c) f29l2 K =
 z0k.Z5 N a d e f b c (λg a b c h i=>K .nrm (f29s2 g a b c h i)):=by kernel_rfl
def f29t7 N a b c d e f (K:KT ρ):f29j N 23 (f29s2 a b c d e f) f29l2 K =
 z0k.Z7 N a b c d e f (λa b c d e f=>K .nrm (f29s2 a b c d e f)):=by kernel_rfl
def f29t10 N a f b c d e (K:KT ρ):f29j N 79 (f29s2 a f b c d e) f29l3 K =
 z0k.Z10 N a f b c d e (λa g h i b c d e=>K .nrm (f29s3 a g h i b c d e)):=by kernel_rfl
def f29t13 N c f g h a b d e (K:KT ρ):f29j N 303 (f29s3 c f g h a b d e) f29l3 K =
 z0k.Z13 N c f g h a b d e (λc f g h a b d e=>K .nrm (f29s3 c f g h a b d e)) (λc a b d e=>K (.exit 0) (zso c a b d e)) (λi j a b=>K .ret (zk8 i j a b)):=by kernel_rfl
def f29t12L N (K:KT ρ):=lp8 K (z0k.Z12L N (λc a b d e=>K (.exit 0) (zso c a b d e)) (λf g a b=>K .ret (zk8 f g a b))) (λc h i j a b d e k=>z0k.Z13 N c h i j a b d e k (λc a b d e=>K (.exit 0) (zso c a b d e)) (λf g a b=>K .ret (zk8 f g a b))) (λF c h i j a b d e=>f29t13 N c h i j a b d e _) (by kernel_rfl)
def f29t12 N a b c d e f g h (K:KT ρ):=vL (f29s3 a b c d e f g h) (f29t12L N (jK f29l4 K) N a b c d e f g h) (by kernel_rfl)
def f29t11 N c f g h a b d e (K:KT ρ):=vB 0 f29l4 K (z0k.Z11 N c f g h a b d e (λc a b d e=>K .nrm (zso c a b d e)) (λi j a b=>K .ret (zk8 i j a b))) (f29t12 N c f g h a b d e _) (by kernel_rfl)
def f29t9 N a f b c d e (K:KT ρ):=vQ (λk=>z0k.Z10 N a f b c d e k) (f29t10 N a f b c d e _) (fx8 λa g h i b c d e=>f29t11 N a g h i b c d e K)
def f29t14 N c a b d e (K:KT ρ):f29j N 63 (zso c a b d e) f29lE K =
 z0k.Z14 N c a b d e (λf g a b=>K .ret (zk8 f g a b)):=by kernel_rfl
def f29t8 N c f a b d e (K:KT ρ):=vQ (λk=>z0k.Z9 N c f a b d e k (λg h a b=>K .ret (zk8 g h a b))) (f29t9 N c f a b d e _) (fx5 λc a b d e=>f29t14 N c a b d e K)
def f29t6 N a b c d e f (K:KT ρ):=vQ (λk=>z0k.Z7 N a b c d e f k) (f29t7 N a b c d e f _) (fx6 λa b c d e f=>f29t8 N a b c d e f K)
def f29t4 N a d e f b c (K:KT ρ):=vQ (λk=>z0k.Z5 N a d e f b c k) (f29t5 N a d e f b c _) (fx6 λg a b c h i=>f29t6 N g a b c h i K)
def f29t2 N c d e f a b (K:KT ρ):=vQ (λk=>z0k.Z3 N c d e f a b k (λg h a b=>K .ret (zk8 g h a b))) (f29t3 N c d e f a b _) (fx6 λc d e f a b=>f29t4 N c d e f a b K)
def f29t0 N b a (K:KT ρ):=vQ (λk=>z0k.Z1 N b a k) (f29t1 N b a _) (fx6 λa c d e f g=>f29t2 N a c d e f g K)
def f29ok(h:z0k.Spec):z0l Tryz.prog 29 e29 :=
 okC Tryz.func29 z2w f29GOk (λN X K=>f29t0 N X.1 X.2.1 K) (by kernel_rfl) λX hb hp=>by
  obtain⟨a,b,_⟩:=X
  obtain⟨N,h⟩:=h a b hb.1 hb.2.1
  exact⟨N,Eq.trans (by kernel_rfl) (h N (Nat.le_refl N))⟩
def e29ok:z0l Tryz.prog 29 e29:=f29ok z0k.ok
end Go.Fw
namespace Go.Fw
variable {ρ : Type}
open Go.Proofs
def f30sig:Sig:=⟨[⟨.pair (.int .i64) (.pair (.int .i64) (.sl 3 (.int .i64))),true,false⟩,⟨.sl 3 (.int .i64),false,false⟩],[⟨.pair (.int .i64) (.pair (.int .i64) (.sl 3 (.int .i64))),true,false⟩,⟨.bool,false,false⟩]⟩
def e30:z2j:=⟨f30sig,none,λX=>((),((z10.g X.1 X.2.1).1,((z10.g X.1 X.2.1).2,())))⟩
def f30G:Gm:=z3s (z3s (z3s z1v 25 e25) 70 e70) 71 e71
def f30GOk:GOk Tryz.prog f30G:=(((GOk.nil).add e25ok (by kernel_rfl)).add ztt (by kernel_rfl)).add e71ok (by kernel_rfl)
def f30lE:z01:=⟨[],[],[],[],[]⟩
def f30s0(a:MT)(b:LI):St:=z2e f30sig.ps (a,(b,()))
def f30s1(a:LI)(b d:Int)(e:LI)(f g:Int):St:=z1h [(1,.c (.sn 3 tI a none)),(2,xb 2),(4,xb 4)] [(2,(27,[yi b,yi d,.sn 3 tI e none])),(4,(27,[yi f,yi g,.nil]))] []
def f30l1:z01:=⟨[1,2,4],[2,4],[],[],[]⟩
def f30s2(a b:LI)(d e f g:Int):St:=z1h [(1,.c (.sn 3 tI b none)),(4,xb 4),(6,xb 6)] [(4,(27,[yi d,yi e,.nil])),(6,(27,[yi f,yi g,.own 20000386]))] [(20000386,(⟨3,.int .i64,a,true,false⟩:Row))]
def f30l2:z01:=⟨[1,4,6],[4,6],[],[],[(⟨true,6,2⟩,20000386)]⟩
def f30s3(a b:LI)(d e f g h:Int):St:=z1h [(1,.c (.sn 3 tI b none)),(4,xb 4),(6,xb 6),(7,xi d)] [(4,(27,[yi e,yi f,.nil])),(6,(27,[yi g,yi h,.own 20000386]))] [(20000386,(⟨3,.int .i64,a,true,false⟩:Row))]
def f30l3:z01:=⟨[1,4,6,7],[4,6],[],[],[(⟨true,6,2⟩,20000386)]⟩
def zsn(a:LI)(b c d e:Int):St:=z1h [(4,xb 4),(6,xb 6)] [(4,(27,[yi b,yi c,.nil])),(6,(27,[yi d,yi e,.own 20000386]))] [(20000386,(⟨3,.int .i64,a,true,false⟩:Row))]
def f30l4:z01:=⟨[4,6],[4,6],[],[],[(⟨true,6,2⟩,20000386)]⟩
def zk7(a:LI)(b:Bool)(c d:Int):St:=z1h [(4,xb 4),(5,xB b)] [(4,(27,[yi c,yi d,.own 20000258]))] [(20000258,(⟨3,.int .i64,a,true,false⟩:Row))]
def f30l5:z01:=⟨[4,5],[4],[⟨⟨true,4,2⟩,30000000,3,.int .i64,true⟩],[],[(⟨true,4,2⟩,20000258)]⟩
def f30B:Nat->Option z01:=z1i [(0,f30l4),(1000000,f30l5)]
abbrev f30j{ρ:Type}(N n:Nat)(σ:St)(l:z01)(K:KT ρ):Option ρ:=z0w f30G tab f30B N (z2o 99 (z1x Tryz.f30) n) .n σ (z1f (some l) K)
def f30t1 N b a (K:KT ρ):f30j N 2 (f30s0 b a) f30l1 K =
 z10.Z1 N b a (λa c d e f g=>K .nrm (f30s1 a c d e f g)):=by kernel_rfl
def f30t3 N c d e f a b (K:KT ρ):f30j N 5 (f30s1 c d e f a b) f30l1 K =
 z10.Z3 N c d e f a b (λc d e f a b=>K .nrm (f30s1 c d e f a b)) (λg h a b=>K .ret (zk7 g h a b)):=by kernel_rfl
def f30t5 N a d e f b c (K:KT ρ):f30j N 11 (f30s1 a d e f b c) f30l2 K =
 z10.Z5 N a d e f b c (λg a b c h i=>K .nrm (f30s2 g a b c h i)):=by kernel_rfl
def f30t8 N a b c d e f (K:KT ρ):f30j N 39 (f30s2 a b c d e f) f30l3 K =
 z10.Z8 N a b c d e f (λa b g c d e f=>K .nrm (f30s3 a b g c d e f)):=by kernel_rfl
def f30t11 N c f g a b d e (K:KT ρ):f30j N 151 (f30s3 c f g a b d e) f30l3 K =
 z10.Z11 N c f g a b d e (λc f g a b d e=>K .nrm (f30s3 c f g a b d e)) (λc a b d e=>K (.exit 0) (zsn c a b d e)) (λh i a b=>K .ret (zk7 h i a b)):=by kernel_rfl
def f30t10L N (K:KT ρ):=lp7 K (z10.Z10L N (λc a b d e=>K (.exit 0) (zsn c a b d e)) (λf g a b=>K .ret (zk7 f g a b))) (λc h i a b d e k=>z10.Z11 N c h i a b d e k (λc a b d e=>K (.exit 0) (zsn c a b d e)) (λf g a b=>K .ret (zk7 f g a b))) (λF c h i a b d e=>f30t11 N c h i a b d e _) (by kernel_rfl)
def f30t10 N a b c d e f g (K:KT ρ):=vL (f30s3 a b c d e f g) (f30t10L N (jK f30l4 K) N a b c d e f g) (by kernel_rfl)
def f30t9 N c f g a b d e (K:KT ρ):=vB 0 f30l4 K (z10.Z9 N c f g a b d e (λc a b d e=>K .nrm (zsn c a b d e)) (λh i a b=>K .ret (zk7 h i a b))) (f30t10 N c f g a b d e _) (by kernel_rfl)
def f30t7 N a b c d e f (K:KT ρ):=vQ (λk=>z10.Z8 N a b c d e f k) (f30t8 N a b c d e f _) (fx7 λa b g c d e f=>f30t9 N a b g c d e f K)
def f30t12 N c a b d e (K:KT ρ):f30j N 31 (zsn c a b d e) f30lE K =
 z10.Z12 N c a b d e (λf g a b=>K .ret (zk7 f g a b)):=by kernel_rfl
def f30t6 N c f a b d e (K:KT ρ):=vQ (λk=>z10.Z7 N c f a b d e k (λg h a b=>K .ret (zk7 g h a b))) (f30t7 N c f a b d e _) (fx5 λc a b d e=>f30t12 N c a b d e K)
def f30t4 N a d e f b c (K:KT ρ):=vQ (λk=>z10.Z5 N a d e f b c k) (f30t5 N a d e f b c _) (fx6 λg a b c h i=>f30t6 N g a b c h i K)
def f30t2 N c d e f a b (K:KT ρ):=vQ (λk=>z10.Z3 N c d e f a b k (λg h a b=>K .ret (zk7 g h a b))) (f30t3 N c d e f a b _) (fx6 λc d e f a b=>f30t4 N c d e f a b K)
def f30t0 N b a (K:KT ρ):=vQ (λk=>z10.Z1 N b a k) (f30t1 N b a _) (fx6 λa c d e f g=>f30t2 N a c d e f g K)
def f30ok(h:z10.Spec):z0l Tryz.prog 30 e30 :=
 okC Tryz.func30 z2w f30GOk (λN X K=>f30t0 N X.1 X.2.1 K) (by kernel_rfl) λX hb hp=>by
  obtain⟨a,b,_⟩:=X
  obtain⟨N,h⟩:=h a b hb.1 hb.2.1
  exact⟨N,Eq.trans (by kernel_rfl) (h N (Nat.le_refl N))⟩
def e30ok:z0l Tryz.prog 30 e30:=f30ok z10.ok
end Go.Fw
namespace Go.Fw
variable {ρ : Type}
open Go.Proofs
def f31sig:Sig:=⟨[⟨.pair (.int .i64) (.pair (.int .i64) (.sl 3 (.int .i64))),true,false⟩],[⟨.pair (.int .i64) (.pair (.int .i64) (.sl 3 (.int .i64))),true,false⟩]⟩
def e31:z2j:=⟨f31sig,none,λX=>((),((z2d.g X.1),()))⟩
def f31G:Gm:=z3s (z3s z1v 63 e63) 69 e69
def f31GOk:GOk Tryz.prog f31G:=((GOk.nil).add zps (by kernel_rfl)).add e69ok (by kernel_rfl)
def f31lE:z01:=⟨[],[],[],[],[]⟩
def f31s0(a:MT):St:=z2e f31sig.ps (a,())
def f31s1(a:LI)(b c:Int):St:=z1h [(2,xb 2)] [(2,(27,[yi b,yi c,.own 20000130]))] [(20000130,(⟨3,.int .i64,a,true,false⟩:Row))]
def f31l1:z01:=⟨[2],[2],[⟨⟨true,2,2⟩,30000000,3,.int .i64,true⟩],[],[(⟨true,2,2⟩,20000130)]⟩
def f31B:Nat->Option z01:=z1i [(1000000,f31l1)]
abbrev f31j{ρ:Type}(N n:Nat)(σ:St)(l:z01)(K:KT ρ):Option ρ:=z0w f31G tab f31B N (z2o 99 (z1x Tryz.f31) n) .n σ (z1f (some l) K)
def f31t0 N a (K:KT ρ):f31j N 1 (f31s0 a) f31lE K =
 z2d.Z0 N a (λb c d=>K .ret (f31s1 b c d)):=by kernel_rfl
def f31ok(h:z2d.Spec):z0l Tryz.prog 31 e31 :=
 okC Tryz.func31 z2w f31GOk (λN X K=>f31t0 N X.1 K) (by kernel_rfl) λX hb hp=>by
  obtain⟨a,_⟩:=X
  obtain⟨N,h⟩:=h a hb.1
  exact⟨N,Eq.trans (by kernel_rfl) (h N (Nat.le_refl N))⟩
def e31ok:z0l Tryz.prog 31 e31:=f31ok z2d.ok
end Go.Fw
namespace Go.Fw
variable {ρ : Type}
open Go.Proofs
def f5sig:Sig:=⟨[⟨.sl 5 (.int .u8),false,false⟩],[⟨.bool,false,false⟩]⟩
def e5:z2j:=⟨f5sig,none,λX=>((),((z1a.g X.1),()))⟩
def f5G:Gm:=z3s (z3s (z3s (z3s (z3s (z3s (z3s (z3s (z3s (z3s (z3s (z3s z1v 20 e20) 21 e21) 22 e22) 23 e23) 24 e24) 25 e25) 26 e26) 27 e27) 28 e28) 29 e29) 30 e30) 31 e31
def f5GOk:GOk Tryz.prog f5G:=((((((((((((GOk.nil).add e20ok (by kernel_rfl)).add e21ok (by kernel_rfl)).add e22ok (by kernel_rfl)).add e23ok (by kernel_rfl)).add e24ok (by kernel_rfl)).add e25ok (by kernel_rfl)).add e26ok (by kernel_rfl)).add e27ok (by kernel_rfl)).add e28ok (by kernel_rfl)).add e29ok (by kernel_rfl)).add e30ok (by kernel_rfl)).add e31ok (by kernel_rfl)
def f5lE:z01:=⟨[],[],[],[],[]⟩
def f5s0(a:List Int):St:=z2e f5sig.ps (a,())
def f5s1(a:List Int):St:=z1h [(0,.c (.sn 5 (.int .u8) a none))] [] []
def f5l1:z01:=⟨[0],[],[],[],[]⟩
def f5s2(a:LI)(b:List Int)(d e:Int):St:=z1h [(0,.c (.sn 5 (.int .u8) b none)),(3,xb 3)] [(3,(27,[yi d,yi e,.own 20000194]))] [(20000194,(⟨3,.int .i64,a,true,false⟩:Row))]
def f5l2:z01:=⟨[0,3],[3],[],[],[(⟨true,3,2⟩,20000194)]⟩
def f5s3(a:LI)(b:List Int)(d:ByteArray)(e f:Int):St:=z1h [(0,.c (.sn 5 (.int .u8) b none)),(3,xb 3),(4,.c (.str d))] [(3,(27,[yi e,yi f,.own 20000194]))] [(20000194,(⟨3,.int .i64,a,true,false⟩:Row))]
def f5l3:z01:=⟨[0,3,4],[3],[],[],[(⟨true,3,2⟩,20000194)]⟩
def f5s4(a b:LI)(d:List Int)(e:ByteArray)(f:Bool)(g h i j:Int):St:=z1h [(0,.c (.sn 5 (.int .u8) d none)),(3,xb 3),(4,.c (.str e)),(5,xb 5),(6,xB f)] [(3,(27,[yi g,yi h,.own 20000194])),(5,(27,[yi i,yi j,.own 20000322]))] [(20000194,(⟨3,.int .i64,a,true,false⟩:Row)),(20000322,(⟨3,.int .i64,b,true,false⟩:Row))]
def f5l4:z01:=⟨[0,3,4,5,6],[3,5],[],[],[(⟨true,3,2⟩,20000194),(⟨true,5,2⟩,20000322)]⟩
def f5s5(a:List Int)(b:ByteArray):St:=z1h [(0,.c (.sn 5 (.int .u8) a none)),(4,.c (.str b))] [] []
def f5l5:z01:=⟨[0,4],[],[],[],[]⟩
def f5s6(a:Bool):St:=z1h [(2,xB a)] [] []
def f5l6:z01:=⟨[2],[],[],[],[]⟩
def f5B:Nat->Option z01:=z1i [(1000000,f5l6)]
abbrev f5j{ρ:Type}(N n:Nat)(σ:St)(l:z01)(K:KT ρ):Option ρ:=z0w f5G tab f5B N (z2o 99 (z1x Tryz.f5) n) .n σ (z1f (some l) K)
def f5t1 N a (K:KT ρ):f5j N 2 (f5s0 a) f5l1 K =
 z1a.Z1 N a (λa=>K .nrm (f5s1 a)):=by kernel_rfl
def f5t3 N a (K:KT ρ):f5j N 5 (f5s1 a) f5l1 K =
 z1a.Z3 N a (λa=>K .nrm (f5s1 a)) (λb=>K .ret (f5s6 b)):=by kernel_rfl
def f5t5 N a (K:KT ρ):f5j N 11 (f5s1 a) f5l2 K =
 z1a.Z5 N a (λb a c d=>K .nrm (f5s2 b a c d)):=by kernel_rfl
def f5t7 N a b c d (K:KT ρ):f5j N 23 (f5s2 a b c d) f5l3 K =
 z1a.Z7 N a b c d (λa b e c d=>K .nrm (f5s3 a b e c d)):=by kernel_rfl
def f5t9 N a b c d e (K:KT ρ):f5j N 47 (f5s3 a b c d e) f5l4 K =
 z1a.Z9 N a b c d e (λa f b c g d e h i=>K .nrm (f5s4 a f b c g d e h i)):=by kernel_rfl
def f5t11 N c d a b e f g h i (K:KT ρ):f5j N 95 (f5s4 c d a b e f g h i) f5l5 K =
 z1a.Z11 N c d a b e f g h i (λa b=>K .nrm (f5s5 a b)) (λj=>K .ret (f5s6 j)):=by kernel_rfl
def f5t12 N a b (K:KT ρ):f5j N 127 (f5s5 a b) f5lE K =
 z1a.Z12 N a b (λc=>K .ret (f5s6 c)):=by kernel_rfl
def f5t10 N c d a b e f g h i (K:KT ρ):=vQ (λk=>z1a.Z11 N c d a b e f g h i k (λj=>K .ret (f5s6 j))) (f5t11 N c d a b e f g h i _) (fx2 λa b=>f5t12 N a b K)
def f5t8 N a b c d e (K:KT ρ):=vQ (λk=>z1a.Z9 N a b c d e k) (f5t9 N a b c d e _) (fx9 λa f b c g d e h i=>f5t10 N a f b c g d e h i K)
def f5t6 N a b c d (K:KT ρ):=vQ (λk=>z1a.Z7 N a b c d k) (f5t7 N a b c d _) (fx5 λa b e c d=>f5t8 N a b e c d K)
def f5t4 N a (K:KT ρ):=vQ (λk=>z1a.Z5 N a k) (f5t5 N a _) (fx4 λb a c d=>f5t6 N b a c d K)
def f5t2 N a (K:KT ρ):=vQ (λk=>z1a.Z3 N a k (λb=>K .ret (f5s6 b))) (f5t3 N a _) (funext λa=>f5t4 N a K)
def f5t0 N a (K:KT ρ):=vQ (λk=>z1a.Z1 N a k) (f5t1 N a _) (funext λa=>f5t2 N a K)
def f5ok(h:z1a.Spec):z0l Tryz.prog 5 e5 :=
 okC Tryz.func5 z2w f5GOk (λN X K=>f5t0 N X.1 K) (by kernel_rfl) λX hb hp=>by
  obtain⟨a,_⟩:=X
  obtain⟨N,h⟩:=h a hb.1
  exact⟨N,Eq.trans (by kernel_rfl) (h N (Nat.le_refl N))⟩
def e5ok:z0l Tryz.prog 5 e5:=f5ok z1a.ok
end Go.Fw
