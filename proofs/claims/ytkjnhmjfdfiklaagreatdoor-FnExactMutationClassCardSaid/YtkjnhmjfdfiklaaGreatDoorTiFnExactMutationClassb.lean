/- The ties: the program's text comes to the plain functions. Nothing is assumed. -/
import Derived.Test.YtkjnhmjfdfiklaaGreatDoorPuFnExactMutationClassb
import Derived.Test.YtkjnhmjfdfiklaaGreatDoorTiFnExactMutationClassa
import Derived.Test.YtkjnhmjfdfiklaaGreatDoorChecked
import Derived.Test.YtkjnhmjfdfiklaaGreatDoorFza
import Derived.Test.YtkjnhmjfdfiklaaGreatDoorPuFnExactMutationClassa
noncomputable section
set_option linter.defProp false
set_option linter.unusedSectionVars false
set_option linter.unusedVariables false
set_option linter.unusedSimpArgs false
set_option maxRecDepth 100000
namespace Go.Fw
variable {ρ : Type}
open Go.Proofs
variable [DC]
def f51sig:Sig:=⟨[⟨.sl 3 (.int .i64),false,false⟩,⟨.sl 3 (.int .i64),false,false⟩],[⟨.int .i64,false,false⟩]⟩
def e51:z29:=⟨f51sig,none,λX=>((),((z0j.g X.1 X.2.1),()))⟩
def f51G:Gm:=z3q z1r 95 e95
def f51GOk:GOk Tryz.prog f51G:=(GOk.nil).add e95ok (by kernel_rfl)
def f51lE:z00:=⟨[],[],[],[],[]⟩
def f51s0(a b:LI):St:=z1p f51sig.ps (a,(b,()))
def zlq(a b:LI):St:=z14 [(0,.c (.sn 3 tI a none)),(1,.c (.sn 3 tI b none))] [] []
def f51l1:z00:=⟨[0,1],[],[],[],[]⟩
def f51s2(a b d:LI)(e f:Int):St:=z14 [(0,.c (.sn 3 tI a none)),(1,.c (.sn 3 tI b none)),(9,.c (.sn 3 tI d none)),(10,xi e),(11,xi f)] [] []
def f51l2:z00:=⟨[0,1,9,10,11],[],[],[],[]⟩
def zph(a:Int):St:=z14 [(4,xi a)] [] []
def f51l3:z00:=⟨[4],[],[],[],[]⟩
def f51B:Nat->Option z00:=z1b [(0,f51l1),(1000000,f51l3)]
abbrev f51j{ρ:Type}(N n:Nat)(σ:St)(l:z00)(K:KT ρ):Option ρ:=z0r f51G tab f51B N (z2q 99 (z1s Tryz.f51) n) .n σ (z16 (some l) K)
def f51t1 N a b (K:KT ρ):f51j N 2 (f51s0 a b) f51l1 K =
 z0j.Z1 N a b (λa b=>K .nrm (zlq a b)):=by kernel_rfl
def f51t4 N a b (K:KT ρ):f51j N 9 (zlq a b) f51l2 K =
 z0j.Z4 N a b (λa b c d e=>K .nrm (f51s2 a b c d e)):=by kernel_rfl
def f51t7 N a b c d e (K:KT ρ):f51j N 37 (f51s2 a b c d e) f51l2 K =
 z0j.Z7 N a b c d e (λa b c d e=>K .nrm (f51s2 a b c d e)) (λa b=>K (.exit 0) (zlq a b)) (λf=>K .ret (zph f)):=by kernel_rfl
def f51t6L N (K:KT ρ):=lp5 K (z0j.Z6L N (λa b=>K (.exit 0) (zlq a b)) (λc=>K .ret (zph c))) (λa b d e f k=>z0j.Z7 N a b d e f k (λa b=>K (.exit 0) (zlq a b)) (λc=>K .ret (zph c))) (λF a b d e f=>f51t7 N a b d e f _) (by kernel_rfl)
def f51t6 N a b c d e (K:KT ρ):=vL (f51s2 a b c d e) (f51t6L N (jK f51l1 K) N a b c d e) (by kernel_rfl)
def f51t5 N a b c d e (K:KT ρ):=vB 0 f51l1 K (z0j.Z5 N a b c d e (λa b=>K .nrm (zlq a b)) (λf=>K .ret (zph f))) (f51t6 N a b c d e _) (by kernel_rfl)
def f51t3 N a b (K:KT ρ):=vQ (λk=>z0j.Z4 N a b k) (f51t4 N a b _) (fx5 λa b c d e=>f51t5 N a b c d e K)
def f51t8 N a b (K:KT ρ):f51j N 7 (zlq a b) f51lE K =
 z0j.Z8 N a b (λc=>K .ret (zph c)):=by kernel_rfl
def f51t2 N a b (K:KT ρ):=vQ (λk=>z0j.Z3 N a b k (λc=>K .ret (zph c))) (f51t3 N a b _) (fx2 λa b=>f51t8 N a b K)
def f51t0 N a b (K:KT ρ):=vQ (λk=>z0j.Z1 N a b k) (f51t1 N a b _) (fx2 λa b=>f51t2 N a b K)
def f51ok(h:z0j.Spec):z0a Tryz.prog 51 e51 :=
 okC Tryz.func51 z2t f51GOk (λN X K=>f51t0 N X.1 X.2.1 K) (by kernel_rfl) λX hb hp=>by
  obtain⟨a,b,_⟩:=X
  obtain⟨N,h⟩:=h a b hb.1 hb.2.1
  exact⟨N,Eq.trans (by kernel_rfl) (h N (Nat.le_refl N))⟩
def e51ok:z0a Tryz.prog 51 e51:=f51ok z0j.ok
end Go.Fw
namespace Go.Fw
variable {ρ : Type}
open Go.Proofs
def f34sig:Sig:=⟨[⟨.pair (.int .i64) (.pair (.int .i64) (.sl 3 (.int .i64))),true,false⟩],[⟨.pair (.int .i64) (.pair (.int .i64) (.sl 3 (.int .i64))),true,false⟩,⟨.bool,false,false⟩]⟩
def e34:z29:=⟨f34sig,none,λX=>((),((z05.g X.1).1,((z05.g X.1).2,())))⟩
def f34G:Gm:=z3q (z3q (z3q (z3q z1r 51 e51) 63 e63) 80 e80) 81 e81
def f34GOk:GOk Tryz.prog f34G:=((((GOk.nil).add e51ok (by kernel_rfl)).add e63ok (by kernel_rfl)).add e80ok (by kernel_rfl)).add e81ok (by kernel_rfl)
def f34lE:z00:=⟨[],[],[],[],[]⟩
def f34s0(a:MT):St:=z1p f34sig.ps (a,())
def f34s1(a b:Int)(c:LI)(d e:Int):St:=z14 [(1,xb 1),(2,xb 2)] [(1,(27,[yi a,yi b,.sn 3 tI c none])),(2,(27,[yi d,yi e,.nil]))] []
def f34l1:z00:=⟨[1,2],[1,2],[],[],[]⟩
def f34s2(a b:Int)(c:LI)(d e f g:Int)(h:LI):St:=z14 [(1,xb 1),(2,xb 2),(4,xb 4)] [(1,(27,[yi a,yi b,.sn 3 tI c none])),(2,(27,[yi d,yi e,.nil])),(4,(27,[yi f,yi g,.sn 3 tI h none]))] []
def f34l2:z00:=⟨[1,2,4],[1,2,4],[],[],[]⟩
def f34s3(a:LL)(b c d e:Int)(f:LI)(g h i j:Int)(l:LI):St:=z14 [(1,xb 1),(2,xb 2),(4,xb 4),(23,xo 1001472),(24,xi b),(25,xi c)] [(1,(27,[yi d,yi e,.sn 3 tI f none])),(2,(27,[yi g,yi h,.nil])),(4,(27,[yi i,yi j,.sn 3 tI l none]))] [(1001472,(⟨22,.sl 3 tI,a,true,false⟩:Row))]
def f34l3:z00:=⟨[1,2,4,23,24,25],[1,2,4],[],[],[(⟨false,23,0⟩,1001472)]⟩
def f34s4(a:LL)(b:LI)(c d e f:Int)(g:LI)(h i j l:Int):St:=z14 [(1,xb 1),(2,xb 2),(4,xb 4),(23,xo 1001472),(24,xi c),(25,xi d)] [(1,(27,[yi e,yi f,.sn 3 tI g none])),(2,(27,[yi h,yi i,.nil])),(4,(27,[yi j,yi l,.own 20000258]))] [(1001472,(⟨22,.sl 3 tI,a,true,false⟩:Row)),(20000258,(⟨3,.int .i64,b,true,false⟩:Row))]
def f34l4:z00:=⟨[1,2,4,23,24,25],[1,2,4],[],[],[(⟨false,23,0⟩,1001472),(⟨true,4,2⟩,20000258)]⟩
def zls(a:LI)(b c d e:Int):St:=z14 [(2,xb 2),(4,xb 4)] [(2,(27,[yi b,yi c,.nil])),(4,(27,[yi d,yi e,.own 20000258]))] [(20000258,(⟨3,.int .i64,a,true,false⟩:Row))]
def f34l5:z00:=⟨[2,4],[2,4],[],[],[(⟨true,4,2⟩,20000258)]⟩
def f34s6(a:LI)(b:Bool)(c d:Int):St:=z14 [(2,xb 2),(3,xB b)] [(2,(27,[yi c,yi d,.own 20000130]))] [(20000130,(⟨3,.int .i64,a,true,false⟩:Row))]
def f34l6:z00:=⟨[2,3],[2],[⟨⟨true,2,2⟩,30000000,3,.int .i64,true⟩],[],[(⟨true,2,2⟩,20000130)]⟩
def f34B:Nat->Option z00:=z1b [(0,f34l5),(1000000,f34l6)]
abbrev f34j{ρ:Type}(N n:Nat)(σ:St)(l:z00)(K:KT ρ):Option ρ:=z0r f34G tab f34B N (z2q 99 (z1s Tryz.f34) n) .n σ (z16 (some l) K)
def f34t1 N a (K:KT ρ):f34j N 2 (f34s0 a) f34l1 K =
 z05.Z1 N a (λb c d e f=>K .nrm (f34s1 b c d e f)):=by kernel_rfl
def f34t3 N c d e a b (K:KT ρ):f34j N 5 (f34s1 c d e a b) f34l1 K =
 z05.Z3 N c d e a b (λc d e a b=>K .nrm (f34s1 c d e a b)) (λf g a b=>K .ret (f34s6 f g a b)):=by kernel_rfl
def f34t5 N a b c d e (K:KT ρ):f34j N 11 (f34s1 a b c d e) f34l2 K =
 z05.Z5 N a b c d e (λa b c d e f g h=>K .nrm (f34s2 a b c d e f g h)):=by kernel_rfl
def f34t8 N a b c d e f g h (K:KT ρ):f34j N 39 (f34s2 a b c d e f g h) f34l3 K =
 z05.Z8 N a b c d e f g h (λi j l a b c d e f g h=>K .nrm (f34s3 i j l a b c d e f g h)):=by kernel_rfl
def f34t11 N f a g h i j l b c d e (K:KT ρ):f34j N 151 (f34s4 f a g h i j l b c d e) f34l4 K =
 z05.Z11 N f a g h i j l b c d e (λf a g h i j l b c d e=>K .nrm (f34s4 f a g h i j l b c d e)) (λa b c d e=>K (.exit 0) (zls a b c d e)):=by kernel_rfl
def f34t12 N f g h i j l a b c d e (K:KT ρ):f34j N 151 (f34s3 f g h i j l a b c d e) f34l4 K =
 z05.Z12 N f g h i j l a b c d e (λf e g h i j l a b c d=>K .nrm (f34s4 f e g h i j l a b c d)) (λe a b c d=>K (.exit 0) (zls e a b c d)):=by kernel_rfl
def f34t10L N (K:KT ρ):=lp11 K (z05.Z10L N (λa b c d e=>K (.exit 0) (zls a b c d e))) (λf a g h i j l b c d e k=>z05.Z11 N f a g h i j l b c d e k (λa b c d e=>K (.exit 0) (zls a b c d e))) (λF f a g h i j l b c d e=>f34t11 N f a g h i j l b c d e _) (by kernel_rfl)
def f34t10 N f g h i j l a b c d e (K:KT ρ):=vP (f34s3 f g h i j l a b c d e) f34l3 (λk=>z05.Z12 N f g h i j l a b c d e k (λe a b c d=>K (.exit 0) (zls e a b c d))) (f34t12 N f g h i j l a b c d e _) (zky λf e g h i j l a b c d=>f34t10L N (jK f34l5 K) N f e g h i j l a b c d) (by kernel_rfl)
def f34t9 N f g h i j l a b c d e (K:KT ρ):=vB 0 f34l5 K (z05.Z9 N f g h i j l a b c d e (λe a b c d=>K .nrm (zls e a b c d))) (f34t10 N f g h i j l a b c d e _) (by kernel_rfl)
def f34t7 N a b c d e f g h (K:KT ρ):=vQ (λk=>z05.Z8 N a b c d e f g h k) (f34t8 N a b c d e f g h _) (zky λi j l a b c d e f g h=>f34t9 N i j l a b c d e f g h K)
def f34t13 N c a b d e (K:KT ρ):f34j N 31 (zls c a b d e) f34lE K =
 z05.Z13 N c a b d e (λf g a b=>K .ret (f34s6 f g a b)):=by kernel_rfl
def f34t6 N f g h a b c d e (K:KT ρ):=vQ (λk=>z05.Z7 N f g h a b c d e k) (f34t7 N f g h a b c d e _) (fx5 λe a b c d=>f34t13 N e a b c d K)
def f34t4 N a b c d e (K:KT ρ):=vQ (λk=>z05.Z5 N a b c d e k) (f34t5 N a b c d e _) (fx8 λa b c d e f g h=>f34t6 N a b c d e f g h K)
def f34t2 N c d e a b (K:KT ρ):=vQ (λk=>z05.Z3 N c d e a b k (λf g a b=>K .ret (f34s6 f g a b))) (f34t3 N c d e a b _) (fx5 λc d e a b=>f34t4 N c d e a b K)
def f34t0 N a (K:KT ρ):=vQ (λk=>z05.Z1 N a k) (f34t1 N a _) (fx5 λb c d e f=>f34t2 N b c d e f K)
def f34ok(h:z05.Spec):z0a Tryz.prog 34 e34 :=
 okC Tryz.func34 z2t f34GOk (λN X K=>f34t0 N X.1 K) (by kernel_rfl) λX hb hp=>by
  obtain⟨a,_⟩:=X
  obtain⟨N,h⟩:=h a hb.1
  exact⟨N,Eq.trans (by kernel_rfl) (h N (Nat.le_refl N))⟩
def e34ok:z0a Tryz.prog 34 e34:=f34ok z05.ok
end Go.Fw
namespace Go.Fw
variable {ρ : Type}
open Go.Proofs
def f121sig:Sig:=⟨[⟨.int .i64,false,false⟩],[⟨.str,false,false⟩]⟩
def e121:z29:=⟨f121sig,(some λX=>strconv_Itoa.P X.1),λX=>((),((strconv_Itoa.g X.1),()))⟩
def zpo:Go.Shelf.Ren:=⟨λ| 171=>121 | 243=>159 | 246=>183 | 283=>195 | 284=>196 | 285=>197 | 286=>198 | 129=>131 | 317=>203 | 318=>204 | 319=>205 | 320=>206 | 337=>207 | 338=>208 | n=>n,λ| 3=>3 | 9=>9 | 2=>2 | 4=>4 | 171=>184 | 0=>0 | 53=>132 | 37=>37 | 5=>5 | 173=>186 | 212=>199 | 51=>130 | 20=>20 | 213=>200 | 46=>96 | 232=>201 | 233=>202 | n=>n,λ| 17=>5 | 18=>6 | 19=>7 | n=>n⟩
def f121lay:LaysM.n171 Tryz.prog zpo:={ mixed:=(by kernel_rfl),f129:=Tryz.func131.trans (congrArg some (by kernel_rfl)),f171:=Tryz.func121.trans (congrArg some (by kernel_rfl)),f243:=Tryz.func159.trans (congrArg some (by kernel_rfl)),f246:=Tryz.func183.trans (congrArg some (by kernel_rfl)),f283:=Tryz.func195.trans (congrArg some (by kernel_rfl)),f284:=Tryz.func196.trans (congrArg some (by kernel_rfl)),f285:=Tryz.func197.trans (congrArg some (by kernel_rfl)),f286:=Tryz.func198.trans (congrArg some (by kernel_rfl)),f317:=Tryz.func203.trans (congrArg some (by kernel_rfl)),f318:=Tryz.func204.trans (congrArg some (by kernel_rfl)),f319:=Tryz.func205.trans (congrArg some (by kernel_rfl)),f320:=Tryz.func206.trans (congrArg some (by kernel_rfl)),f337:=Tryz.func207.trans (congrArg some (by kernel_rfl)),f338:=Tryz.func208.trans (congrArg some (by kernel_rfl)),t0:=Tryz.underlying0,a0:=Tryz.isAgg0,z0:=Tryz.sizeOf0,v0:=Tryz.zeroValue0,t2:=Tryz.underlying2,a2:=Tryz.isAgg2,z2:=Tryz.sizeOf2,v2:=Tryz.zeroValue2,t3:=Tryz.underlying3,a3:=Tryz.isAgg3,z3:=Tryz.sizeOf3,v3:=Tryz.zeroValue3,t4:=Tryz.underlying4,a4:=Tryz.isAgg4,z4:=Tryz.sizeOf4,v4:=Tryz.zeroValue4,t5:=Tryz.underlying5,a5:=Tryz.isAgg5,z5:=Tryz.sizeOf5,v5:=Tryz.zeroValue5,t9:=Tryz.underlying9,a9:=Tryz.isAgg9,z9:=Tryz.sizeOf9,v9:=Tryz.zeroValue9,t20:=Tryz.underlying20,a20:=Tryz.isAgg20,z20:=Tryz.sizeOf20,v20:=Tryz.zeroValue20,t37:=Tryz.underlying37,a37:=Tryz.isAgg37,z37:=Tryz.sizeOf37,v37:=Tryz.zeroValue37,t46:=Tryz.underlying96,a46:=Tryz.isAgg96,z46:=Tryz.sizeOf96,v46:=Tryz.zeroValue96,t51:=Tryz.underlying130,a51:=Tryz.isAgg130,z51:=Tryz.sizeOf130,v51:=Tryz.zeroValue130,t53:=Tryz.underlying132,a53:=Tryz.isAgg132,z53:=Tryz.sizeOf132,v53:=Tryz.zeroValue132,t171:=Tryz.underlying184,a171:=Tryz.isAgg184,z171:=Tryz.sizeOf184,v171:=Tryz.zeroValue184,t173:=Tryz.underlying186,a173:=Tryz.isAgg186,z173:=Tryz.sizeOf186,v173:=Tryz.zeroValue186,t212:=Tryz.underlying199,a212:=Tryz.isAgg199,z212:=Tryz.sizeOf199,v212:=Tryz.zeroValue199,t213:=Tryz.underlying200,a213:=Tryz.isAgg200,z213:=Tryz.sizeOf200,t232:=Tryz.underlying201,a232:=Tryz.isAgg201,z232:=Tryz.sizeOf201,v232:=Tryz.zeroValue201,t233:=Tryz.underlying202,a233:=Tryz.isAgg202,z233:=Tryz.sizeOf202,v233:=Tryz.zeroValue202,g17:=(by kernel_rfl),g18:=(by kernel_rfl),g19:=(by kernel_rfl),i0:=(by kernel_rfl),i2:=(by kernel_rfl),i3:=(by kernel_rfl),i4:=(by kernel_rfl),i5:=(by kernel_rfl),i9:=(by kernel_rfl),i20:=(by kernel_rfl),i37:=(by kernel_rfl),i46:=(by kernel_rfl),i51:=(by kernel_rfl),i53:=(by kernel_rfl),i171:=(by kernel_rfl),i173:=(by kernel_rfl),i212:=(by kernel_rfl),i232:=(by kernel_rfl),i233:=(by kernel_rfl),m17:=(by kernel_rfl),m18:=(by kernel_rfl),m19:=(by kernel_rfl) }
def f121ok(_:True):z0a Tryz.prog 121 e121:=itoa_ok tab0 f121lay
def e121ok:z0a Tryz.prog 121 e121:=f121ok strconv_Itoa.ok
end Go.Fw
namespace Go.Fw
variable {ρ : Type}
open Go.Proofs
def f90sig:Sig:=⟨[⟨.int .i64,false,false⟩],[⟨.str,false,false⟩]⟩
def e90:z29:=⟨f90sig,(some λX=>z26.P X.1),λX=>((),((z26.g X.1),()))⟩
def f90G:Gm:=z3q z1r 121 e121
def f90GOk:GOk Tryz.prog f90G:=(GOk.nil).add e121ok (by kernel_rfl)
def f90lE:z00:=⟨[],[],[],[],[]⟩
def f90s0(a:Int):St:=z1p f90sig.ps (a,())
def f90s1(a:ByteArray):St:=z14 [(2,.c (.str a))] [] []
def f90l1:z00:=⟨[2],[],[],[],[]⟩
def f90B:Nat->Option z00:=z1b [(1000000,f90l1)]
abbrev f90j{ρ:Type}(N n:Nat)(σ:St)(l:z00)(K:KT ρ):Option ρ:=z0r f90G tab f90B N (z2q 99 (z1s Tryz.f90) n) .n σ (z16 (some l) K)
def f90t0 N a (K:KT ρ):f90j N 1 (f90s0 a) f90lE K =
 z26.Z0 N a (λb=>K .ret (f90s1 b)):=by kernel_rfl
def f90ok(h:z26.Spec):z0a Tryz.prog 90 e90 :=
 okC Tryz.func90 z2t f90GOk (λN X K=>f90t0 N X.1 K) (by kernel_rfl) λX hb hp=>by
  obtain⟨a,_⟩:=X
  obtain⟨N,h⟩:=h a hp
  exact⟨N,Eq.trans (by kernel_rfl) (h N (Nat.le_refl N))⟩
def e90ok:z0a Tryz.prog 90 e90:=f90ok z26.ok
end Go.Fw
namespace Go.Fw
variable {ρ : Type}
open Go.Proofs
def f79sig:Sig:=⟨[⟨.sl 9 (.str),false,false⟩,⟨.str,false,false⟩],[⟨.str,false,false⟩]⟩
def e79:z29:=⟨f79sig,(some λX=>strings_Join.P X.1 X.2.1),λX=>((),((strings_Join.g X.1 X.2.1),()))⟩
def zjs:Go.Shelf.Ren:=⟨λ| 156=>79 | 165=>112 | 166=>113 | 169=>114 | 240=>153 | 241=>154 | 276=>179 | 277=>180 | n=>n,λ| 31=>70 | 9=>9 | 3=>3 | 4=>4 | 0=>0 | 20=>20 | 72=>114 | 76=>104 | 70=>112 | 37=>37 | 75=>103 | 127=>147 | 164=>169 | 5=>5 | 80=>116 | n=>n,λn=>n⟩
def f79lay:Lays.n156 Tryz.prog zjs:={ mixed:=(by kernel_rfl),f156:=Tryz.func79.trans (congrArg some (by kernel_rfl)),f165:=Tryz.func112.trans (congrArg some (by kernel_rfl)),f166:=Tryz.func113.trans (congrArg some (by kernel_rfl)),f169:=Tryz.func114.trans (congrArg some (by kernel_rfl)),f240:=Tryz.func153.trans (congrArg some (by kernel_rfl)),f241:=Tryz.func154.trans (congrArg some (by kernel_rfl)),f276:=Tryz.func179.trans (congrArg some (by kernel_rfl)),f277:=Tryz.func180.trans (congrArg some (by kernel_rfl)),t0:=Tryz.underlying0,a0:=Tryz.isAgg0,z0:=Tryz.sizeOf0,v0:=Tryz.zeroValue0,t3:=Tryz.underlying3,a3:=Tryz.isAgg3,z3:=Tryz.sizeOf3,v3:=Tryz.zeroValue3,t4:=Tryz.underlying4,a4:=Tryz.isAgg4,z4:=Tryz.sizeOf4,v4:=Tryz.zeroValue4,t9:=Tryz.underlying9,a9:=Tryz.isAgg9,z9:=Tryz.sizeOf9,v9:=Tryz.zeroValue9,t20:=Tryz.underlying20,a20:=Tryz.isAgg20,z20:=Tryz.sizeOf20,v20:=Tryz.zeroValue20,t31:=Tryz.underlying70,a31:=Tryz.isAgg70,z31:=Tryz.sizeOf70,v31:=Tryz.zeroValue70,t37:=Tryz.underlying37,a37:=Tryz.isAgg37,z37:=Tryz.sizeOf37,v37:=Tryz.zeroValue37,t70:=Tryz.underlying112,a70:=Tryz.isAgg112,z70:=Tryz.sizeOf112,v70:=Tryz.zeroValue112,t72:=Tryz.underlying114,a72:=Tryz.isAgg114,z72:=Tryz.sizeOf114,v72:=Tryz.zeroValue114,t75:=Tryz.underlying103,a75:=Tryz.isAgg103,z75:=Tryz.sizeOf103,v75:=Tryz.zeroValue103,t76:=Tryz.underlying104,a76:=Tryz.isAgg104,z76:=Tryz.sizeOf104,v76:=Tryz.zeroValue104,t127:=Tryz.underlying147,a127:=Tryz.isAgg147,z127:=Tryz.sizeOf147,v127:=Tryz.zeroValue147,t164:=Tryz.underlying169,a164:=Tryz.isAgg169,z164:=Tryz.sizeOf169,v164:=Tryz.zeroValue169 }
def f79layX:Builder.Extra Tryz.prog zjs:={ sizeBuilder:=(by kernel_rfl),liesBuilder:=(by kernel_rfl),t5:=Tryz.underlying5,a5:=Tryz.isAgg5,z5:=Tryz.sizeOf5,v5:=Tryz.zeroValue5,infoByte:=(by kernel_rfl),cellsByte:=(by kernel_rfl),sizeByte:=(by kernel_rfl),neB5:=(by decide) }
def f79ok(_:True):z0a Tryz.prog 79 e79:=join_ok f79lay f79layX
def e79ok:z0a Tryz.prog 79 e79:=f79ok strings_Join.ok
end Go.Fw
namespace Go.Fw
variable {ρ : Type}
open Go.Proofs
def f47sig:Sig:=⟨[⟨.sl 3 (.int .i64),false,false⟩],[⟨.str,false,false⟩]⟩
def e47:z29:=⟨f47sig,(some λX=>z0s.P X.1),λX=>((),((z0s.g X.1),()))⟩
def f47G:Gm:=z3q (z3q z1r 79 e79) 90 e90
def f47GOk:GOk Tryz.prog f47G:=((GOk.nil).add e79ok (by kernel_rfl)).add e90ok (by kernel_rfl)
def f47lE:z00:=⟨[],[],[],[],[]⟩
def f47s0(a:LI):St:=z1p f47sig.ps (a,())
def f47s1(a:LI):St:=z14 [(0,.c (.sn 3 tI a none))] [] []
def f47l1:z00:=⟨[0],[],[],[],[]⟩
def f47s2(a:LI):St:=z14 [(0,.c (.sn 3 tI a none)),(3,.c (.nil))] [] []
def f47l2:z00:=⟨[0,3],[],[],[],[]⟩
def f47s3(a:LI)(b d:Int):St:=z14 [(3,.c (.nil)),(6,.c (.sn 3 tI a none)),(7,xi b),(8,xi d)] [] []
def f47l3:z00:=⟨[3,6,7,8],[],[],[],[]⟩
def f47s4(a:List ByteArray)(b:LI)(d e:Int):St:=z14 [(3,xo 1000192),(6,.c (.sn 3 tI b none)),(7,xi d),(8,xi e)] [] [(1000192,(⟨9,.str,a,true,false⟩:Row))]
def f47l4:z00:=⟨[3,6,7,8],[],[⟨⟨false,3,0⟩,30000000,9,.str,true⟩],[],[(⟨false,3,0⟩,1000192)]⟩
def zsd(a:List ByteArray):St:=z14 [(3,xo 1000192)] [] [(1000192,(⟨9,.str,a,true,false⟩:Row))]
def f47l5:z00:=⟨[3],[],[],[],[(⟨false,3,0⟩,1000192)]⟩
def f47s6(a:ByteArray):St:=z14 [(2,.c (.str a))] [] []
def f47l6:z00:=⟨[2],[],[],[],[]⟩
def f47B:Nat->Option z00:=z1b [(0,f47l5),(1000000,f47l6)]
abbrev f47j{ρ:Type}(N n:Nat)(σ:St)(l:z00)(K:KT ρ):Option ρ:=z0r f47G tab f47B N (z2q 99 (z1s Tryz.f47) n) .n σ (z16 (some l) K)
def f47t1 N a (K:KT ρ):f47j N 2 (f47s0 a) f47l1 K =
 z0s.Z1 N a (λa=>K .nrm (f47s1 a)):=by kernel_rfl
def f47t3 N a (K:KT ρ):f47j N 5 (f47s1 a) f47l2 K =
 z0s.Z3 N a (λa=>K .nrm (f47s2 a)):=by kernel_rfl
def f47t6 N a (K:KT ρ):f47j N 19 (f47s2 a) f47l3 K =
 z0s.Z6 N a (λb c d=>K .nrm (f47s3 b c d)):=by kernel_rfl
def f47t9 N a b c d (K:KT ρ):f47j N 75 (f47s4 a b c d) f47l4 K =
 z0s.Z9 N a b c d (λa b c d=>K .nrm (f47s4 a b c d)) (λa=>K (.exit 0) (zsd a)):=by kernel_rfl
def f47t8L N (K:KT ρ):=lp4 K (z0s.Z8L N (λa=>K (.exit 0) (zsd a))) (λa b c d k=>z0s.Z9 N a b c d k (λa=>K (.exit 0) (zsd a))) (λF a b c d=>f47t9 N a b c d _) (by kernel_rfl)
def f47t8 N a b c (K:KT ρ):=vL (f47s3 a b c) (f47t8L N (jK f47l5 K) N ([]:List ByteArray) a b c) (by kernel_rfl)
def f47t7 N a b c (K:KT ρ):=vB 0 f47l5 K (z0s.Z7 N a b c (λd=>K .nrm (zsd d))) (f47t8 N a b c _) (by kernel_rfl)
def f47t5 N a (K:KT ρ):=vQ (λk=>z0s.Z6 N a k) (f47t6 N a _) (fx3 λb c d=>f47t7 N b c d K)
def f47t10 N a (K:KT ρ):f47j N 15 (zsd a) f47lE K =
 z0s.Z10 N a (λb=>K .ret (f47s6 b)):=by kernel_rfl
def f47t4 N a (K:KT ρ):=vQ (λk=>z0s.Z5 N a k) (f47t5 N a _) (funext λb=>f47t10 N b K)
def f47t2 N a (K:KT ρ):=vQ (λk=>z0s.Z3 N a k) (f47t3 N a _) (funext λa=>f47t4 N a K)
def f47t0 N a (K:KT ρ):=vQ (λk=>z0s.Z1 N a k) (f47t1 N a _) (funext λa=>f47t2 N a K)
def f47ok(h:z0s.Spec):z0a Tryz.prog 47 e47 :=
 okC Tryz.func47 z2t f47GOk (λN X K=>f47t0 N X.1 K) (by kernel_rfl) λX hb hp=>by
  obtain⟨a,_⟩:=X
  obtain⟨N,h⟩:=h a hb.1 hp
  exact⟨N,Eq.trans (by kernel_rfl) (h N (Nat.le_refl N))⟩
def e47ok:z0a Tryz.prog 47 e47:=f47ok z0s.ok
end Go.Fw
namespace Go.Fw
variable {ρ : Type}
open Go.Proofs
def f92sig:Sig:=⟨[⟨.pair (.int .i64) (.pair (.int .i64) (.sl 3 (.int .i64))),true,false⟩,⟨.int .i64,false,false⟩],[⟨.pair (.int .i64) (.pair (.int .i64) (.sl 3 (.int .i64))),true,false⟩]⟩
def e92:z29:=⟨f92sig,(some λX=>z0e.P X.1 X.2.1),λX=>((),((z0e.g X.1 X.2.1),()))⟩
def f92G:Gm:=z3q (z3q z1r 69 e69) 83 e83
def f92GOk:GOk Tryz.prog f92G:=((GOk.nil).add e69ok (by kernel_rfl)).add e83ok (by kernel_rfl)
def f92lE:z00:=⟨[],[],[],[],[]⟩
def f92s0(a:MT)(b:Int):St:=z1p f92sig.ps (a,(b,()))
def f92s1(a b c:Int)(d:LI)(e f:Int):St:=z14 [(1,xi a),(2,xb 2),(4,xb 4)] [(2,(27,[yi b,yi c,.sn 3 tI d none])),(4,(27,[yi e,yi f,.nil]))] []
def f92l1:z00:=⟨[1,2,4],[2,4],[],[],[]⟩
def f92s2(a:LI)(b c d:Int)(e:LI)(f g h i:Int):St:=z14 [(1,xi b),(2,xb 2),(4,xb 4),(5,xb 5)] [(2,(27,[yi c,yi d,.sn 3 tI e none])),(4,(27,[yi f,yi g,.nil])),(5,(27,[yi h,yi i,.own 20000322]))] [(20000322,(⟨3,.int .i64,a,true,false⟩:Row))]
def f92l2:z00:=⟨[1,2,4,5],[2,4,5],[],[],[(⟨true,5,2⟩,20000322)]⟩
def zbt(a:LI)(b c d e:Int)(f:LI)(g h i j:Int):St:=z14 [(1,xi b),(2,xb 2),(4,xb 4),(5,xb 5),(6,xi c)] [(2,(27,[yi d,yi e,.sn 3 tI f none])),(4,(27,[yi g,yi h,.nil])),(5,(27,[yi i,yi j,.own 20000322]))] [(20000322,(⟨3,.int .i64,a,true,false⟩:Row))]
def zjn:z00:=⟨[1,2,4,5,6],[2,4,5],[],[],[(⟨true,5,2⟩,20000322)]⟩
def zey(a:LI)(b c d e f:Int)(g:LI)(h i j l:Int):St:=z14 [(1,xi b),(2,xb 2),(4,xb 4),(5,xb 5),(6,xi c),(7,xi d)] [(2,(27,[yi e,yi f,.sn 3 tI g none])),(4,(27,[yi h,yi i,.nil])),(5,(27,[yi j,yi l,.own 20000322]))] [(20000322,(⟨3,.int .i64,a,true,false⟩:Row))]
def zjm:z00:=⟨[1,2,4,5,6,7],[2,4,5],[],[],[(⟨true,5,2⟩,20000322)]⟩
def f92s5(a:LI)(b d e f g h:Int)(i:LI)(j l m o:Int):St:=z14 [(1,xi b),(2,xb 2),(4,xb 4),(5,xb 5),(6,xi d),(7,xi e),(8,.c (.elt 20000322 f 0))] [(2,(27,[yi g,yi h,.sn 3 tI i none])),(4,(27,[yi j,yi l,.nil])),(5,(27,[yi m,yi o,.own 20000322]))] [(20000322,(⟨3,.int .i64,a,true,false⟩:Row))]
def f92l5:z00:=⟨[1,2,4,5,6,7,8],[2,4,5],[],[],[(⟨true,5,2⟩,20000322)]⟩
def f92s6(a:LI)(b d e f g h i j:Int)(l:LI)(m o p q:Int):St:=z14 [(1,xi b),(2,xb 2),(4,xb 4),(5,xb 5),(6,xi d),(7,xi e),(8,.c (.elt 20000322 f 0)),(9,xi g),(10,xi h)] [(2,(27,[yi i,yi j,.sn 3 tI l none])),(4,(27,[yi m,yi o,.nil])),(5,(27,[yi p,yi q,.own 20000322]))] [(20000322,(⟨3,.int .i64,a,true,false⟩:Row))]
def f92l6:z00:=⟨[1,2,4,5,6,7,8,9,10],[2,4,5],[],[],[(⟨true,5,2⟩,20000322)]⟩
def f92s7(a:LI)(b d e f g h:Int)(i:Bool)(j l:Int)(m:LI)(o p q r:Int):St:=z14 [(1,xi b),(2,xb 2),(4,xb 4),(5,xb 5),(6,xi d),(7,xi e),(8,.c (.elt 20000322 f 0)),(9,xi g),(10,xi h),(48,xB i)] [(2,(27,[yi j,yi l,.sn 3 tI m none])),(4,(27,[yi o,yi p,.nil])),(5,(27,[yi q,yi r,.own 20000322]))] [(20000322,(⟨3,.int .i64,a,true,false⟩:Row))]
def f92l7:z00:=⟨[1,2,4,5,6,7,8,9,10,48],[2,4,5],[],[],[(⟨true,5,2⟩,20000322)]⟩
def zp6(a:LI)(b c d e:Int):St:=z14 [(4,xb 4),(5,xb 5)] [(4,(27,[yi b,yi c,.nil])),(5,(27,[yi d,yi e,.own 20000322]))] [(20000322,(⟨3,.int .i64,a,true,false⟩:Row))]
def f92l8:z00:=⟨[4,5],[4,5],[],[],[(⟨true,5,2⟩,20000322)]⟩
def f92s9(a:LI)(b c:Int):St:=z14 [(4,xb 4)] [(4,(27,[yi b,yi c,.own 20000258]))] [(20000258,(⟨3,.int .i64,a,true,false⟩:Row))]
def f92l9:z00:=⟨[4],[4],[],[],[(⟨true,4,2⟩,20000258)]⟩
def f92B:Nat->Option z00:=z1b [(4,zjm),(3,zjm),(2,zjn),(1,zjn),(0,f92l8),(1000000,f92l9)]
abbrev zp7{ρ:Type}(N n:Nat)(σ:St)(l:z00)(K:KT ρ):Option ρ:=z0r f92G tab f92B N (z2q 99 (z1s Tryz.f92) n) .n σ (z16 (some l) K)
def f92t1 N b a (K:KT ρ):zp7 N 2 (f92s0 b a) f92l1 K =
 z0e.Z1 N b a (λa c d e f g=>K .nrm (f92s1 a c d e f g)):=by kernel_rfl
def f92t3 N a b c d e f (K:KT ρ):zp7 N 5 (f92s1 a b c d e f) f92l2 K =
 z0e.Z3 N a b c d e f (λg a b c d e f h i=>K .nrm (f92s2 g a b c d e f h i)):=by kernel_rfl
def f92t6 N a b c d e f g h i (K:KT ρ):zp7 N 19 (f92s2 a b c d e f g h i) zjn K =
 z0e.Z6 N a b c d e f g h i (λa b j c d e f g h i=>K .nrm (zbt a b j c d e f g h i)):=by kernel_rfl
def f92t10 N a f g h i j b c d e (K:KT ρ):zp7 N 139 (zbt a f g h i j b c d e) zjn K =
 z0e.Z10 N a f g h i j b c d e (λa f g h i j b c d e=>K .nrm (zbt a f g h i j b c d e)) (λa b c d e=>K (.exit 0) (zp6 a b c d e)):=by kernel_rfl
def f92t14 N a b c d e f g h i j (K:KT ρ):zp7 N 1099 (zbt a b c d e f g h i j) zjm K =
 z0e.Z14 N a b c d e f g h i j (λa b c l d e f g h i j=>K .nrm (zey a b c l d e f g h i j)):=by kernel_rfl
def f92t18 N a b c l d e f g h i j (K:KT ρ):zp7 N 8779 (zey a b c l d e f g h i j) zjm K =
 z0e.Z18 N a b c l d e f g h i j (λa b c l d e f g h i j=>K .nrm (zey a b c l d e f g h i j)) (λa b c d e f g h i j=>K (.exit 2) (zbt a b c d e f g h i j)):=by kernel_rfl
def f92t22 N a b c d e f g h i j l (K:KT ρ):zp7 N 70219 (zey a b c d e f g h i j l) f92l5 K =
 z0e.Z22 N a b c d e f g h i j l (λa b c d m e f g h i j l=>K .nrm (f92s5 a b c d m e f g h i j l)):=by kernel_rfl
def f92t24 N a b c d e f g h i j l m (K:KT ρ):zp7 N 168523 (f92s5 a b c d e f g h i j l m) f92l6 K =
 z0e.Z24 N a b c d e f g h i j l m (λa b c d e o p f g h i j l m=>K .nrm (f92s6 a b c d e o p f g h i j l m)):=by kernel_rfl
def f92t27 N a b c d e f g h i j l m o p (K:KT ρ):zp7 N 627275 (f92s6 a b c d e f g h i j l m o p) f92l7 K =
 z0e.Z27 N a b c d e f g h i j l m o p (λa b c d e f g q h i j l m o p=>K .nrm (f92s7 a b c d e f g q h i j l m o p)):=by kernel_rfl
def f92t28 N a b c d m o p q e f g h i j l (K:KT ρ):zp7 N 889419 (f92s7 a b c d m o p q e f g h i j l) zjm K =
 z0e.Z28 N a b c d m o p q e f g h i j l (λa b c d e f g h i j l=>K .nrm (zey a b c d e f g h i j l)):=by kernel_rfl
def f92t26 N a b c d e f g h i j l m o p (K:KT ρ):=vQ (λk=>z0e.Z27 N a b c d e f g h i j l m o p k) (f92t27 N a b c d e f g h i j l m o p _) (fx15 λa b c d e f g q h i j l m o p=>f92t28 N a b c d e f g q h i j l m o p K)
def f92t25 N a b c d m o p e f g h i j l (K:KT ρ):=vB 4 zjm K (z0e.Z25 N a b c d m o p e f g h i j l (λa b c d e f g h i j l=>K .nrm (zey a b c d e f g h i j l))) (f92t26 N a b c d m o p e f g h i j l _) (by kernel_rfl)
def f92t23 N a b c d e f g h i j l m (K:KT ρ):=vQ (λk=>z0e.Z24 N a b c d e f g h i j l m k) (f92t24 N a b c d e f g h i j l m _) (fx14 λa b c d e o p f g h i j l m=>f92t25 N a b c d e o p f g h i j l m K)
def f92t21 N a b c d e f g h i j l (K:KT ρ):=vQ (λk=>z0e.Z22 N a b c d e f g h i j l k) (f92t22 N a b c d e f g h i j l _) (fx12 λa b c d m e f g h i j l=>f92t23 N a b c d m e f g h i j l K)
def f92t20 N a b c d e f g h i j l (K:KT ρ):=vB 3 zjm K (z0e.Z20 N a b c d e f g h i j l (λa b c d e f g h i j l=>K .nrm (zey a b c d e f g h i j l))) (f92t21 N a b c d e f g h i j l _) (by kernel_rfl)
def f92t29 N a b c d e f g h i j l (K:KT ρ):zp7 N 29259 (zey a b c d e f g h i j l) zjm K =
 z0e.Z29 N a b c d e f g h i j l (λa b c d e f g h i j l=>K .nrm (zey a b c d e f g h i j l)):=by kernel_rfl
def f92t19 N a b c d e f g h i j l (K:KT ρ):=vQ (λk=>z0e.Z20 N a b c d e f g h i j l k) (f92t20 N a b c d e f g h i j l _) (zky λa b c d e f g h i j l=>f92t29 N a b c d e f g h i j l K)
def f92t17 N a b c l d e f g h i j (K:KT ρ):=vQ (λk=>z0e.Z18 N a b c l d e f g h i j k (λa b c d e f g h i j=>K (.exit 2) (zbt a b c d e f g h i j))) (f92t18 N a b c l d e f g h i j _) (zky λa b c l d e f g h i j=>f92t19 N a b c l d e f g h i j K)
def f92t16L N (K:KT ρ):=lp11 K (z0e.Z16L N (λa b c d e f g h i j=>K (.exit 2) (zbt a b c d e f g h i j))) (λa b c l d e f g h i j k=>z0e.Z17 N a b c l d e f g h i j k (λa b c d e f g h i j=>K (.exit 2) (zbt a b c d e f g h i j))) (λF a b c l d e f g h i j=>f92t17 N a b c l d e f g h i j _) (by kernel_rfl)
def f92t16 N a b c d e f g h i j l (K:KT ρ):=vL (zey a b c d e f g h i j l) (f92t16L N (jK zjn K) N a b c d e f g h i j l) (by kernel_rfl)
def f92t15 N a b c l d e f g h i j (K:KT ρ):=vB 2 zjn K (z0e.Z15 N a b c l d e f g h i j (λa b c d e f g h i j=>K .nrm (zbt a b c d e f g h i j))) (f92t16 N a b c l d e f g h i j _) (by kernel_rfl)
def f92t13 N a b c d e f g h i j (K:KT ρ):=vQ (λk=>z0e.Z14 N a b c d e f g h i j k) (f92t14 N a b c d e f g h i j _) (zky λa b c l d e f g h i j=>f92t15 N a b c l d e f g h i j K)
def f92t12 N a b c d e f g h i j (K:KT ρ):=vB 1 zjn K (z0e.Z12 N a b c d e f g h i j (λa b c d e f g h i j=>K .nrm (zbt a b c d e f g h i j))) (f92t13 N a b c d e f g h i j _) (by kernel_rfl)
def f92t30 N a b c d e f g h i j (K:KT ρ):zp7 N 459 (zbt a b c d e f g h i j) zjn K =
 z0e.Z30 N a b c d e f g h i j (λa b c d e f g h i j=>K .nrm (zbt a b c d e f g h i j)):=by kernel_rfl
def f92t11 N a b c d e f g h i j (K:KT ρ):=vQ (λk=>z0e.Z12 N a b c d e f g h i j k) (f92t12 N a b c d e f g h i j _) (zdc λa b c d e f g h i j=>f92t30 N a b c d e f g h i j K)
def f92t9 N a f g h i j b c d e (K:KT ρ):=vQ (λk=>z0e.Z10 N a f g h i j b c d e k (λa b c d e=>K (.exit 0) (zp6 a b c d e))) (f92t10 N a f g h i j b c d e _) (zdc λa f g h i j b c d e=>f92t11 N a f g h i j b c d e K)
def f92t8L N (K:KT ρ):=lp10 K (z0e.Z8L N (λa b c d e=>K (.exit 0) (zp6 a b c d e))) (λa f g h i j b c d e k=>z0e.Z9 N a f g h i j b c d e k (λa b c d e=>K (.exit 0) (zp6 a b c d e))) (λF a f g h i j b c d e=>f92t9 N a f g h i j b c d e _) (by kernel_rfl)
def f92t8 N a b c d e f g h i j (K:KT ρ):=vL (zbt a b c d e f g h i j) (f92t8L N (jK f92l8 K) N a b c d e f g h i j) (by kernel_rfl)
def f92t7 N a f g h i j b c d e (K:KT ρ):=vB 0 f92l8 K (z0e.Z7 N a f g h i j b c d e (λa b c d e=>K .nrm (zp6 a b c d e))) (f92t8 N a f g h i j b c d e _) (by kernel_rfl)
def f92t5 N a b c d e f g h i (K:KT ρ):=vQ (λk=>z0e.Z6 N a b c d e f g h i k) (f92t6 N a b c d e f g h i _) (zdc λa b j c d e f g h i=>f92t7 N a b j c d e f g h i K)
def f92t31 N c a b d e (K:KT ρ):zp7 N 15 (zp6 c a b d e) f92lE K =
 z0e.Z31 N c a b d e (λf a b=>K .ret (f92s9 f a b)):=by kernel_rfl
def f92t4 N a f g h i b c d e (K:KT ρ):=vQ (λk=>z0e.Z5 N a f g h i b c d e k) (f92t5 N a f g h i b c d e _) (fx5 λa b c d e=>f92t31 N a b c d e K)
def f92t2 N a b c d e f (K:KT ρ):=vQ (λk=>z0e.Z3 N a b c d e f k) (f92t3 N a b c d e f _) (fx9 λg a b c d e f h i=>f92t4 N g a b c d e f h i K)
def f92t0 N b a (K:KT ρ):=vQ (λk=>z0e.Z1 N b a k) (f92t1 N b a _) (fx6 λa c d e f g=>f92t2 N a c d e f g K)
def f92ok(h:z0e.Spec):z0a Tryz.prog 92 e92 :=
 okC Tryz.func92 z2t f92GOk (λN X K=>f92t0 N X.1 X.2.1 K) (by kernel_rfl) λX hb hp=>by
  obtain⟨a,b,_⟩:=X
  obtain⟨N,h⟩:=h a b hb.1 hp
  exact⟨N,Eq.trans (by kernel_rfl) (h N (Nat.le_refl N))⟩
def e92ok:z0a Tryz.prog 92 e92:=f92ok z0e.ok
end Go.Fw
namespace Go.Fw
variable {ρ : Type}
open Go.Proofs
def f48sig:Sig:=⟨[⟨.pair (.int .i64) (.pair (.int .i64) (.sl 3 (.int .i64))),true,false⟩,⟨.int .i64,false,false⟩],[⟨.pair (.int .i64) (.pair (.int .i64) (.sl 3 (.int .i64))),true,false⟩,⟨.bool,false,false⟩]⟩
def e48:z29:=⟨f48sig,none,λX=>((),((z17.g X.1 X.2.1).1,((z17.g X.1 X.2.1).2,())))⟩
def f48G:Gm:=z3q (z3q (z3q z1r 63 e63) 91 e91) 92 e92
def f48GOk:GOk Tryz.prog f48G:=(((GOk.nil).add e63ok (by kernel_rfl)).add e91ok (by kernel_rfl)).add e92ok (by kernel_rfl)
def f48lE:z00:=⟨[],[],[],[],[]⟩
def f48s0(a:MT)(b:Int):St:=z1p f48sig.ps (a,(b,()))
def f48s1(a:LI)(b:Bool)(c d:Int):St:=z14 [(4,xb 4),(5,xB b)] [(4,(27,[yi c,yi d,.own 20000258]))] [(20000258,(⟨3,.int .i64,a,true,false⟩:Row))]
def f48l1:z00:=⟨[4,5],[4],[⟨⟨true,4,2⟩,30000000,3,.int .i64,true⟩],[],[(⟨true,4,2⟩,20000258)]⟩
def f48B:Nat->Option z00:=z1b [(1000000,f48l1)]
abbrev f48j{ρ:Type}(N n:Nat)(σ:St)(l:z00)(K:KT ρ):Option ρ:=z0r f48G tab f48B N (z2q 99 (z1s Tryz.f48) n) .n σ (z16 (some l) K)
def f48t0 N a b (K:KT ρ):f48j N 1 (f48s0 a b) f48lE K =
 z17.Z0 N a b (λc d e f=>K .ret (f48s1 c d e f)):=by kernel_rfl
def f48ok(h:z17.Spec):z0a Tryz.prog 48 e48 :=
 okC Tryz.func48 z2t f48GOk (λN X K=>f48t0 N X.1 X.2.1 K) (by kernel_rfl) λX hb hp=>by
  obtain⟨a,b,_⟩:=X
  obtain⟨N,h⟩:=h a b hb.1
  exact⟨N,Eq.trans (by kernel_rfl) (h N (Nat.le_refl N))⟩
def e48ok:z0a Tryz.prog 48 e48:=f48ok z17.ok
end Go.Fw
namespace Go.Fw
variable {ρ : Type}
open Go.Proofs
variable [DC]
def f50sig:Sig:=⟨[⟨.pair (.int .i64) (.pair (.int .i64) (.sl 3 (.int .i64))),true,false⟩,⟨.pair (.int .i64) (.pair (.int .i64) (.sl 3 (.int .i64))),true,false⟩],[⟨.int .i64,false,false⟩]⟩
def e50:z29:=⟨f50sig,none,λX=>((),((z2k.g X.1 X.2.1),()))⟩
def f50G:Gm:=z3q z1r 51 e51
def f50GOk:GOk Tryz.prog f50G:=(GOk.nil).add e51ok (by kernel_rfl)
def f50lE:z00:=⟨[],[],[],[],[]⟩
def f50s0(a b:MT):St:=z1p f50sig.ps (a,(b,()))
def f50s1(a:Int):St:=z14 [(4,xi a)] [] []
def f50l1:z00:=⟨[4],[],[],[],[]⟩
def f50B:Nat->Option z00:=z1b [(1000000,f50l1)]
abbrev f50j{ρ:Type}(N n:Nat)(σ:St)(l:z00)(K:KT ρ):Option ρ:=z0r f50G tab f50B N (z2q 99 (z1s Tryz.f50) n) .n σ (z16 (some l) K)
def f50t0 N a b (K:KT ρ):f50j N 1 (f50s0 a b) f50lE K =
 z2k.Z0 N a b (λc=>K .ret (f50s1 c)):=by kernel_rfl
def f50ok(h:z2k.Spec):z0a Tryz.prog 50 e50 :=
 okC Tryz.func50 z2t f50GOk (λN X K=>f50t0 N X.1 X.2.1 K) (by kernel_rfl) λX hb hp=>by
  obtain⟨a,b,_⟩:=X
  obtain⟨N,h⟩:=h a b hb.1 hb.2.1
  exact⟨N,Eq.trans (by kernel_rfl) (h N (Nat.le_refl N))⟩
def e50ok:z0a Tryz.prog 50 e50:=f50ok z2k.ok
end Go.Fw
namespace Go.Fw
variable {ρ : Type}
open Go.Proofs
def f49sig:Sig:=⟨[⟨.sl 27 (.pair (.int .i64) (.pair (.int .i64) (.sl 3 (.int .i64)))),false,true⟩,⟨.fnc 50,false,false⟩],[]⟩
def e49:z29:=⟨f49sig,(some λX=>z08.P X.1 X.2.1),λX=>((z08.g X.1 X.2.1),())⟩
def zsc:Go.Shelf.Ren:=⟨λ| 6=>49 | 15=>94 | 14=>93 | 28=>130 | 29=>131 | 20=>122 | 21=>123 | 22=>124 | 23=>125 | 24=>126 | 25=>127 | 26=>128 | 27=>129 | 46=>160 | 47=>161 | 48=>162 | 49=>163 | 50=>164 | 57=>184 | n=>n,λ| 22=>31 | 24=>27 | 25=>63 | 3=>3 | 39=>96 | 0=>0 | 53=>130 | 55=>132 | 4=>4 | 46=>123 | 45=>122 | 50=>127 | 5=>5 | 9=>9 | 66=>150 | 70=>120 | 76=>173 | 77=>174 | n=>n,λn=>n⟩
def f49lay:SlLaysF0.n6 Tryz.prog zsc:={ mixed:=(by kernel_rfl),f6:=⟨Tryz.f49.name,(by kernel_rfl),Tryz.func49.trans (congrArg some (by kernel_rfl))⟩,f14:=⟨Tryz.f93.name,(by kernel_rfl),Tryz.func93.trans (congrArg some (by kernel_rfl))⟩,f15:=Tryz.func94.trans (congrArg some (by kernel_rfl)),f20:=⟨Tryz.f122.name,(by kernel_rfl),Tryz.func122.trans (congrArg some (by kernel_rfl))⟩,f21:=⟨Tryz.f123.name,(by kernel_rfl),Tryz.func123.trans (congrArg some (by kernel_rfl))⟩,f22:=⟨Tryz.f124.name,(by kernel_rfl),Tryz.func124.trans (congrArg some (by kernel_rfl))⟩,f23:=⟨Tryz.f125.name,(by kernel_rfl),Tryz.func125.trans (congrArg some (by kernel_rfl))⟩,f24:=⟨Tryz.f126.name,(by kernel_rfl),Tryz.func126.trans (congrArg some (by kernel_rfl))⟩,f25:=⟨Tryz.f127.name,(by kernel_rfl),Tryz.func127.trans (congrArg some (by kernel_rfl))⟩,f26:=⟨Tryz.f128.name,(by kernel_rfl),Tryz.func128.trans (congrArg some (by kernel_rfl))⟩,f27:=⟨Tryz.f129.name,(by kernel_rfl),Tryz.func129.trans (congrArg some (by kernel_rfl))⟩,f28:=Tryz.func130.trans (congrArg some (by kernel_rfl)),f29:=Tryz.func131.trans (congrArg some (by kernel_rfl)),f46:=⟨Tryz.f160.name,(by kernel_rfl),Tryz.func160.trans (congrArg some (by kernel_rfl))⟩,f47:=Tryz.func161.trans (congrArg some (by kernel_rfl)),f48:=Tryz.func162.trans (congrArg some (by kernel_rfl)),f49:=⟨Tryz.f163.name,(by kernel_rfl),Tryz.func163.trans (congrArg some (by kernel_rfl))⟩,f50:=⟨Tryz.f164.name,(by kernel_rfl),Tryz.func164.trans (congrArg some (by kernel_rfl))⟩,f57:=⟨Tryz.f184.name,(by kernel_rfl),Tryz.func184.trans (congrArg some (by kernel_rfl))⟩,t0:=Tryz.underlying0,a0:=Tryz.isAgg0,z0:=Tryz.sizeOf0,v0:=Tryz.zeroValue0,t3:=Tryz.underlying3,a3:=Tryz.isAgg3,z3:=Tryz.sizeOf3,v3:=Tryz.zeroValue3,t4:=Tryz.underlying4,a4:=Tryz.isAgg4,z4:=Tryz.sizeOf4,v4:=Tryz.zeroValue4,t5:=Tryz.underlying5,a5:=Tryz.isAgg5,z5:=Tryz.sizeOf5,v5:=Tryz.zeroValue5,t9:=Tryz.underlying9,a9:=Tryz.isAgg9,z9:=Tryz.sizeOf9,v9:=Tryz.zeroValue9,t22:=Tryz.underlying31,a22:=Tryz.isAgg31,z22:=Tryz.sizeOf31,v22:=Tryz.zeroValue31,t25:=Tryz.underlying63,a25:=Tryz.isAgg63,z25:=Tryz.sizeOf63,v25:=Tryz.zeroValue63,t39:=Tryz.underlying96,a39:=Tryz.isAgg96,z39:=Tryz.sizeOf96,v39:=Tryz.zeroValue96,t45:=Tryz.underlying122,a45:=Tryz.isAgg122,z45:=Tryz.sizeOf122,v45:=Tryz.zeroValue122,t46:=Tryz.underlying123,a46:=Tryz.isAgg123,z46:=Tryz.sizeOf123,v46:=Tryz.zeroValue123,t50:=Tryz.underlying127,a50:=Tryz.isAgg127,z50:=Tryz.sizeOf127,v50:=Tryz.zeroValue127,t53:=Tryz.underlying130,a53:=Tryz.isAgg130,z53:=Tryz.sizeOf130,v53:=Tryz.zeroValue130,t55:=Tryz.underlying132,a55:=Tryz.isAgg132,z55:=Tryz.sizeOf132,v55:=Tryz.zeroValue132,t66:=Tryz.underlying150,a66:=Tryz.isAgg150,z66:=Tryz.sizeOf150,v66:=Tryz.zeroValue150,t70:=Tryz.underlying120,a70:=Tryz.isAgg120,z70:=Tryz.sizeOf120,v70:=Tryz.zeroValue120,t76:=Tryz.underlying173,a76:=Tryz.isAgg173,z76:=Tryz.sizeOf173,v76:=Tryz.zeroValue173,t77:=Tryz.underlying174,a77:=Tryz.isAgg174,z77:=Tryz.sizeOf174,v77:=Tryz.zeroValue174 }
def f49ok(_:True):z0a Tryz.prog 49 e49:=zl9 (t:=.pair (.int .i64) (.pair (.int .i64) (.sl 3 (.int .i64)))) (e:=27) f49lay (c:=50) (0,(0,[])) Tryz.isAgg27 Tryz.sizeOf27 zl5 (@e50ok DC.tt) (by
 have h2:¬ Tryz.f50.body=none:=by
  intro h
  have:Tryz.f50.body.isSome=true:=by kernel_rfl
  rw[h]at this
  cases this
 have h1 : ¬ Tryz.f50.name = "runtime.NumGoroutine" := by decide +kernel
 intro args w
 simp[callFunc,Tryz.func50,h1,h2])
def e49ok:z0a Tryz.prog 49 e49:=f49ok z08.ok
end Go.Fw
namespace Go.Fw
variable {ρ : Type}
open Go.Proofs
def f15sig:Sig:=⟨[⟨.pair (.int .i64) (.pair (.int .i64) (.sl 3 (.int .i64))),true,false⟩],[⟨.sl 27 (.pair (.int .i64) (.pair (.int .i64) (.sl 3 (.int .i64)))),false,false⟩,⟨.bool,false,false⟩]⟩
def e15:z29:=⟨f15sig,none,λX=>((),((z06.g X.1).1,((z06.g X.1).2,())))⟩
def f15G:Gm:=z3q (z3q (z3q (z3q z1r 34 e34) 47 e47) 48 e48) 49 e49
def f15GOk:GOk Tryz.prog f15G:=((((GOk.nil).add e34ok (by kernel_rfl)).add e47ok (by kernel_rfl)).add e48ok (by kernel_rfl)).add e49ok (by kernel_rfl)
def f15lE:z00:=⟨[],[],[],[],[]⟩
def f15s0(a:MT):St:=z1p f15sig.ps (a,())
def f15s1(a b:Int)(c:LI):St:=z14 [(1,xb 1)] [(1,(27,[yi a,yi b,.sn 3 tI c none]))] []
def f15l1:z00:=⟨[1],[1],[],[],[]⟩
def f15s2(a:LI)(b:Bool)(c d:Int)(e:LI)(f g:Int):St:=z14 [(1,xb 1),(4,xb 4),(5,xB b)] [(1,(27,[yi c,yi d,.sn 3 tI e none])),(4,(27,[yi f,yi g,.own 20000258]))] [(20000258,(⟨3,.int .i64,a,true,false⟩:Row))]
def f15l2:z00:=⟨[1,4,5],[1,4],[],[],[(⟨true,4,2⟩,20000258)]⟩
def f15s3(a:LI)(b c:Int)(d:LI)(e f:Int):St:=z14 [(1,xb 1),(4,xb 4)] [(1,(27,[yi b,yi c,.sn 3 tI d none])),(4,(27,[yi e,yi f,.own 20000258]))] [(20000258,(⟨3,.int .i64,a,true,false⟩:Row))]
def f15l3:z00:=⟨[1,4],[1,4],[],[],[(⟨true,4,2⟩,20000258)]⟩
def f15s4(a:LM)(b c:Int)(d:LI)(e f:Int)(g:LI):St:=z14 [(1,xb 1),(4,xb 4),(6,xo 1000384)] [(1,(27,[yi b,yi c,.sn 3 tI d none])),(4,(27,[yi e,yi f,.sn 3 tI g (some 1000384)]))] [(1000384,(⟨27,tM 3,a,true,false⟩:Row))]
def f15l4:z00:=⟨[1,4,6],[1,4],[],[],[(⟨false,6,0⟩,1000384)]⟩
def f15s5(a:LM)(b d:Int)(e:LI)(f:List ByteArray):St:=z14 [(1,xb 1),(6,xo 1000384),(7,.c (.mp 24))] [(1,(27,[yi b,yi d,.sn 3 tI e none])),(24,(1000000059,[.mset (.str) f]))] [(1000384,(⟨27,tM 3,a,true,false⟩:Row))]
def f15l5:z00:=⟨[1,6,7],[1,24],[],[],[(⟨false,6,0⟩,1000384)]⟩
def zd3(a:LM)(b d e:Int)(f:LI)(g:List ByteArray):St:=z14 [(1,xb 1),(6,xo 1000384),(7,.c (.mp 24)),(8,xi b)] [(1,(27,[yi d,yi e,.sn 3 tI f none])),(24,(1000000059,[.mset (.str) g]))] [(1000384,(⟨27,tM 3,a,true,false⟩:Row))]
def zk3:z00:=⟨[1,6,7,8],[1,24],[],[],[(⟨false,6,0⟩,1000384)]⟩
def f15s7(a:LM)(b d e f:Int)(g:LI)(h:List ByteArray):St:=z14 [(1,xb 1),(6,xo 1000384),(7,.c (.mp 24)),(8,xi b),(9,xi d)] [(1,(27,[yi e,yi f,.sn 3 tI g none])),(24,(1000000059,[.mset (.str) h]))] [(1000384,(⟨27,tM 3,a,true,false⟩:Row))]
def f15l7:z00:=⟨[1,6,7,8,9],[1,24],[],[],[(⟨false,6,0⟩,1000384)]⟩
def zpn(a:LM):St:=z14 [(6,xo 1000384)] [] [(1000384,(⟨27,tM 3,a,true,false⟩:Row))]
def f15l8:z00:=⟨[6],[],[],[],[(⟨false,6,0⟩,1000384)]⟩
def zbw(a:LM)(b:Bool):St:=z14 [(2,xo 1000128),(3,xB b)] [] [(1000128,(⟨27,tM 3,a,true,false⟩:Row))]
def f15l9:z00:=⟨[2,3],[],[⟨⟨false,2,0⟩,30000000,27,.pair (.int .i64) (.pair (.int .i64) (.sl 3 (.int .i64))),true⟩],[],[(⟨false,2,0⟩,1000128)]⟩
def f15B:Nat->Option z00:=z1b [(2,zk3),(1,zk3),(0,f15l8),(1000000,f15l9)]
abbrev zso{ρ:Type}(N n:Nat)(σ:St)(l:z00)(K:KT ρ):Option ρ:=z0r f15G tab f15B N (z2q 99 (z1s Tryz.f15) n) .n σ (z16 (some l) K)
def f15t1 N a (K:KT ρ):zso N 2 (f15s0 a) f15l1 K =
 z06.Z1 N a (λb c d=>K .nrm (f15s1 b c d)):=by kernel_rfl
def f15t3 N a b c (K:KT ρ):zso N 5 (f15s1 a b c) f15l2 K =
 z06.Z3 N a b c (λd e a b c f g=>K .nrm (f15s2 d e a b c f g)):=by kernel_rfl
def f15t5 N a g b c d e f (K:KT ρ):zso N 11 (f15s2 a g b c d e f) f15l3 K =
 z06.Z5 N a g b c d e f (λa b c d e f=>K .nrm (f15s3 a b c d e f)) (λh i=>K .ret (zbw h i)):=by kernel_rfl
def f15t7 N a b c d e f (K:KT ρ):zso N 23 (f15s3 a b c d e f) f15l4 K =
 z06.Z7 N a b c d e f (λg b c d e f a=>K .nrm (f15s4 g b c d e f a)):=by kernel_rfl
def f15t9 N a b c d e f g (K:KT ρ):zso N 47 (f15s4 a b c d e f g) f15l5 K =
 z06.Z9 N a b c d e f g (λa b c d h=>K .nrm (f15s5 a b c d h)):=by kernel_rfl
def f15t12 N a b c d e (K:KT ρ):zso N 159 (f15s5 a b c d e) zk3 K =
 z06.Z12 N a b c d e (λa f b c d e=>K .nrm (zd3 a f b c d e)):=by kernel_rfl
def f15t16 N a b c d e f (K:KT ρ):zso N 1119 (zd3 a b c d e f) zk3 K =
 z06.Z16 N a b c d e f (λa b c d e f=>K .nrm (zd3 a b c d e f)) (λa=>K (.exit 0) (zpn a)):=by kernel_rfl
def f15t20 N a b c d e f (K:KT ρ):zso N 8799 (zd3 a b c d e f) f15l7 K =
 z06.Z20 N a b c d e f (λa b g c d e f=>K .nrm (f15s7 a b g c d e f)):=by kernel_rfl
def f15t23 N a b g c d e f (K:KT ρ):zso N 37471 (f15s7 a b g c d e f) f15l7 K =
 z06.Z23 N a b g c d e f (λa b g c d e f=>K .nrm (f15s7 a b g c d e f)) (λa b c d e f=>K (.exit 2) (zd3 a b c d e f)) (λh i=>K .ret (zbw h i)):=by kernel_rfl
def f15t22L N (K:KT ρ):=lp7 K (z06.Z22L N (λa b c d e f=>K (.exit 2) (zd3 a b c d e f)) (λg h=>K .ret (zbw g h))) (λa b i c d e f k=>z06.Z23 N a b i c d e f k (λa b c d e f=>K (.exit 2) (zd3 a b c d e f)) (λg h=>K .ret (zbw g h))) (λF a b i c d e f=>f15t23 N a b i c d e f _) (by kernel_rfl)
def f15t22 N a b c d e f g (K:KT ρ):=vL (f15s7 a b c d e f g) (f15t22L N (jK zk3 K) N a b c d e f g) (by kernel_rfl)
def f15t21 N a b g c d e f (K:KT ρ):=vB 2 zk3 K (z06.Z21 N a b g c d e f (λa b c d e f=>K .nrm (zd3 a b c d e f)) (λh i=>K .ret (zbw h i))) (f15t22 N a b g c d e f _) (by kernel_rfl)
def f15t19 N a b c d e f (K:KT ρ):=vQ (λk=>z06.Z20 N a b c d e f k) (f15t20 N a b c d e f _) (fx7 λa b g c d e f=>f15t21 N a b g c d e f K)
def f15t18 N a b c d e f (K:KT ρ):=vB 1 zk3 K (z06.Z18 N a b c d e f (λa b c d e f=>K .nrm (zd3 a b c d e f)) (λg h=>K .ret (zbw g h))) (f15t19 N a b c d e f _) (by kernel_rfl)
def f15t24 N a b c d e f (K:KT ρ):zso N 3679 (zd3 a b c d e f) zk3 K =
 z06.Z24 N a b c d e f (λa b c d e f=>K .nrm (zd3 a b c d e f)):=by kernel_rfl
def f15t17 N a b c d e f (K:KT ρ):=vQ (λk=>z06.Z18 N a b c d e f k (λg h=>K .ret (zbw g h))) (f15t18 N a b c d e f _) (fx6 λa b c d e f=>f15t24 N a b c d e f K)
def f15t15 N a b c d e f (K:KT ρ):=vQ (λk=>z06.Z16 N a b c d e f k (λa=>K (.exit 0) (zpn a))) (f15t16 N a b c d e f _) (fx6 λa b c d e f=>f15t17 N a b c d e f K)
def f15t14L N (K:KT ρ):=lp6 K (z06.Z14L N (λa=>K (.exit 0) (zpn a)) (λb c=>K .ret (zbw b c))) (λa d e f g h k=>z06.Z15 N a d e f g h k (λa=>K (.exit 0) (zpn a)) (λb c=>K .ret (zbw b c))) (λF a d e f g h=>f15t15 N a d e f g h _) (by kernel_rfl)
def f15t14 N a b c d e f (K:KT ρ):=vL (zd3 a b c d e f) (f15t14L N (jK f15l8 K) N a b c d e f) (by kernel_rfl)
def f15t13 N a b c d e f (K:KT ρ):=vB 0 f15l8 K (z06.Z13 N a b c d e f (λa=>K .nrm (zpn a)) (λg h=>K .ret (zbw g h))) (f15t14 N a b c d e f _) (by kernel_rfl)
def f15t11 N a b c d e (K:KT ρ):=vQ (λk=>z06.Z12 N a b c d e k) (f15t12 N a b c d e _) (fx6 λa f b c d e=>f15t13 N a f b c d e K)
def f15t25 N a (K:KT ρ):zso N 127 (zpn a) f15lE K =
 z06.Z25 N a (λb c=>K .ret (zbw b c)):=by kernel_rfl
def f15t10 N a b c d e (K:KT ρ):=vQ (λk=>z06.Z11 N a b c d e k (λf g=>K .ret (zbw f g))) (f15t11 N a b c d e _) (funext λa=>f15t25 N a K)
def f15t8 N a b c d e f g (K:KT ρ):=vQ (λk=>z06.Z9 N a b c d e f g k) (f15t9 N a b c d e f g _) (fx5 λa b c d h=>f15t10 N a b c d h K)
def f15t6 N a b c d e f (K:KT ρ):=vQ (λk=>z06.Z7 N a b c d e f k) (f15t7 N a b c d e f _) (fx7 λg b c d e f a=>f15t8 N g b c d e f a K)
def f15t4 N a g b c d e f (K:KT ρ):=vQ (λk=>z06.Z5 N a g b c d e f k (λh i=>K .ret (zbw h i))) (f15t5 N a g b c d e f _) (fx6 λa b c d e f=>f15t6 N a b c d e f K)
def f15t2 N a b c (K:KT ρ):=vQ (λk=>z06.Z3 N a b c k) (f15t3 N a b c _) (fx7 λd e a b c f g=>f15t4 N d e a b c f g K)
def f15t0 N a (K:KT ρ):=vQ (λk=>z06.Z1 N a k) (f15t1 N a _) (fx3 λb c d=>f15t2 N b c d K)
def f15ok(h:z06.Spec):z0a Tryz.prog 15 e15 :=
 okC Tryz.func15 z2t f15GOk (λN X K=>f15t0 N X.1 K) (by kernel_rfl) λX hb hp=>by
  obtain⟨a,_⟩:=X
  obtain⟨N,h⟩:=h a hb.1
  exact⟨N,Eq.trans (by kernel_rfl) (h N (Nat.le_refl N))⟩
def e15ok:z0a Tryz.prog 15 e15:=f15ok z06.ok
end Go.Fw
namespace Go.Fw
variable {ρ : Type}
open Go.Proofs
def f43sig:Sig:=⟨[⟨.sl 3 (.int .i64),false,false⟩,⟨.sl 3 (.int .i64),false,false⟩],[⟨.bool,false,false⟩]⟩
def e43:z29:=⟨f43sig,none,λX=>((),((z24.g X.1 X.2.1),()))⟩
def f43G:Gm:=z1r
def f43GOk:GOk Tryz.prog f43G:=GOk.nil
def f43lE:z00:=⟨[],[],[],[],[]⟩
def f43s0(a b:LI):St:=z1p f43sig.ps (a,(b,()))
def f43s1(a b:LI):St:=z14 [(0,.c (.sn 3 tI a none)),(1,.c (.sn 3 tI b none))] [] []
def f43l1:z00:=⟨[0,1],[],[],[],[]⟩
def f43s2(a b:LI)(d:Int):St:=z14 [(0,.c (.sn 3 tI a none)),(1,.c (.sn 3 tI b none)),(5,xi d)] [] []
def f43l2:z00:=⟨[0,1,5],[],[],[],[]⟩
def zsf :St:=z14 [] [] []
def f43l3:z00:=⟨[],[],[],[],[]⟩
def zjz(a:Bool):St:=z14 [(4,xB a)] [] []
def f43l4:z00:=⟨[4],[],[],[],[]⟩
def f43B:Nat->Option z00:=z1b [(0,f43l3),(1000000,f43l4)]
abbrev f43j{ρ:Type}(N n:Nat)(σ:St)(l:z00)(K:KT ρ):Option ρ:=z0r f43G tab f43B N (z2q 99 (z1s Tryz.f43) n) .n σ (z16 (some l) K)
def f43t1 N a b (K:KT ρ):f43j N 2 (f43s0 a b) f43l1 K =
 z24.Z1 N a b (λa b=>K .nrm (f43s1 a b)):=by kernel_rfl
def f43t3 N a b (K:KT ρ):f43j N 5 (f43s1 a b) f43l1 K =
 z24.Z3 N a b (λa b=>K .nrm (f43s1 a b)) (λc=>K .ret (zjz c)):=by kernel_rfl
def f43t6 N a b (K:KT ρ):f43j N 19 (f43s1 a b) f43l2 K =
 z24.Z6 N a b (λa b c=>K .nrm (f43s2 a b c)):=by kernel_rfl
def f43t9 N a b c (K:KT ρ):f43j N 75 (f43s2 a b c) f43l2 K =
 z24.Z9 N a b c (λa b c=>K .nrm (f43s2 a b c)) (K (.exit 0) zsf) (λd=>K .ret (zjz d)):=by kernel_rfl
def f43t8L N (K:KT ρ):=lp3 K (z24.Z8L N (K (.exit 0) zsf) (λa=>K .ret (zjz a))) (λb c d k=>z24.Z9 N b c d k (K (.exit 0) zsf) (λa=>K .ret (zjz a))) (λF b c d=>f43t9 N b c d _) (by kernel_rfl)
def f43t8 N a b c (K:KT ρ):=vL (f43s2 a b c) (f43t8L N (jK f43l3 K) N a b c) (by kernel_rfl)
def f43t7 N a b c (K:KT ρ):=vB 0 f43l3 K (z24.Z7 N a b c (K .nrm zsf) (λd=>K .ret (zjz d))) (f43t8 N a b c _) (by kernel_rfl)
def f43t5 N a b (K:KT ρ):=vQ (λk=>z24.Z6 N a b k) (f43t6 N a b _) (fx3 λa b c=>f43t7 N a b c K)
def f43t10 N  (K:KT ρ):f43j N 15 zsf f43lE K =
 z24.Z10 N (λa=>K .ret (zjz a)):=by kernel_rfl
def f43t4 N a b (K:KT ρ):=vQ (λk=>z24.Z5 N a b k (λc=>K .ret (zjz c))) (f43t5 N a b _) (f43t10 N K)
def f43t2 N a b (K:KT ρ):=vQ (λk=>z24.Z3 N a b k (λc=>K .ret (zjz c))) (f43t3 N a b _) (fx2 λa b=>f43t4 N a b K)
def f43t0 N a b (K:KT ρ):=vQ (λk=>z24.Z1 N a b k) (f43t1 N a b _) (fx2 λa b=>f43t2 N a b K)
def f43ok(h:z24.Spec):z0a Tryz.prog 43 e43 :=
 okC Tryz.func43 z2t f43GOk (λN X K=>f43t0 N X.1 X.2.1 K) (by kernel_rfl) λX hb hp=>by
  obtain⟨a,b,_⟩:=X
  obtain⟨N,h⟩:=h a b hb.1 hb.2.1
  exact⟨N,Eq.trans (by kernel_rfl) (h N (Nat.le_refl N))⟩
def e43ok:z0a Tryz.prog 43 e43:=f43ok z24.ok
end Go.Fw
namespace Go.Fw
variable {ρ : Type}
open Go.Proofs
def f13sig:Sig:=⟨[⟨.pair (.int .i64) (.pair (.int .i64) (.sl 3 (.int .i64))),true,false⟩,⟨.pair (.int .i64) (.pair (.int .i64) (.sl 3 (.int .i64))),true,false⟩],[⟨.bool,false,false⟩]⟩
def e13:z29:=⟨f13sig,none,λX=>((),((z2p.g X.1 X.2.1),()))⟩
def f13G:Gm:=z3q z1r 43 e43
def f13GOk:GOk Tryz.prog f13G:=(GOk.nil).add e43ok (by kernel_rfl)
def f13lE:z00:=⟨[],[],[],[],[]⟩
def f13s0(a b:MT):St:=z1p f13sig.ps (a,(b,()))
def f13s1(a:Bool):St:=z14 [(4,xB a)] [] []
def f13l1:z00:=⟨[4],[],[],[],[]⟩
def f13B:Nat->Option z00:=z1b [(1000000,f13l1)]
abbrev f13j{ρ:Type}(N n:Nat)(σ:St)(l:z00)(K:KT ρ):Option ρ:=z0r f13G tab f13B N (z2q 99 (z1s Tryz.f13) n) .n σ (z16 (some l) K)
def f13t0 N a b (K:KT ρ):f13j N 1 (f13s0 a b) f13lE K =
 z2p.Z0 N a b (λc=>K .ret (f13s1 c)):=by kernel_rfl
def f13ok(h:z2p.Spec):z0a Tryz.prog 13 e13 :=
 okC Tryz.func13 z2t f13GOk (λN X K=>f13t0 N X.1 X.2.1 K) (by kernel_rfl) λX hb hp=>by
  obtain⟨a,b,_⟩:=X
  obtain⟨N,h⟩:=h a b hb.1 hb.2.1
  exact⟨N,Eq.trans (by kernel_rfl) (h N (Nat.le_refl N))⟩
def e13ok:z0a Tryz.prog 13 e13:=f13ok z2p.ok
end Go.Fw
namespace Go.Fw
variable {ρ : Type}
open Go.Proofs
def f16sig:Sig:=⟨[⟨.sl 27 (.pair (.int .i64) (.pair (.int .i64) (.sl 3 (.int .i64)))),false,false⟩,⟨.sl 27 (.pair (.int .i64) (.pair (.int .i64) (.sl 3 (.int .i64)))),false,false⟩],[⟨.bool,false,false⟩]⟩
def e16:z29:=⟨f16sig,none,λX=>((),((z15.g X.1 X.2.1),()))⟩
def f16G:Gm:=z3q z1r 13 e13
def f16GOk:GOk Tryz.prog f16G:=(GOk.nil).add e13ok (by kernel_rfl)
def f16lE:z00:=⟨[],[],[],[],[]⟩
def f16s0(a b:LM):St:=z1p f16sig.ps (a,(b,()))
def f16s1(a b:LM):St:=z14 [(0,.c (.sn 27 (tM 3) a none)),(1,.c (.sn 27 (tM 3) b none))] [] []
def f16l1:z00:=⟨[0,1],[],[],[],[]⟩
def f16s2(a b:LM)(d:Int):St:=z14 [(0,.c (.sn 27 (tM 3) a none)),(1,.c (.sn 27 (tM 3) b none)),(5,xi d)] [] []
def f16l2:z00:=⟨[0,1,5],[],[],[],[]⟩
def zsn :St:=z14 [] [] []
def f16l3:z00:=⟨[],[],[],[],[]⟩
def zk2(a:Bool):St:=z14 [(4,xB a)] [] []
def f16l4:z00:=⟨[4],[],[],[],[]⟩
def f16B:Nat->Option z00:=z1b [(0,f16l3),(1000000,f16l4)]
abbrev f16j{ρ:Type}(N n:Nat)(σ:St)(l:z00)(K:KT ρ):Option ρ:=z0r f16G tab f16B N (z2q 99 (z1s Tryz.f16) n) .n σ (z16 (some l) K)
def f16t1 N a b (K:KT ρ):f16j N 2 (f16s0 a b) f16l1 K =
 z15.Z1 N a b (λa b=>K .nrm (f16s1 a b)):=by kernel_rfl
def f16t3 N a b (K:KT ρ):f16j N 5 (f16s1 a b) f16l1 K =
 z15.Z3 N a b (λa b=>K .nrm (f16s1 a b)) (λc=>K .ret (zk2 c)):=by kernel_rfl
def f16t6 N a b (K:KT ρ):f16j N 19 (f16s1 a b) f16l2 K =
 z15.Z6 N a b (λa b c=>K .nrm (f16s2 a b c)):=by kernel_rfl
def f16t9 N a b c (K:KT ρ):f16j N 75 (f16s2 a b c) f16l2 K =
 z15.Z9 N a b c (λa b c=>K .nrm (f16s2 a b c)) (K (.exit 0) zsn) (λd=>K .ret (zk2 d)):=by kernel_rfl
def f16t8L N (K:KT ρ):=lp3 K (z15.Z8L N (K (.exit 0) zsn) (λa=>K .ret (zk2 a))) (λb c d k=>z15.Z9 N b c d k (K (.exit 0) zsn) (λa=>K .ret (zk2 a))) (λF b c d=>f16t9 N b c d _) (by kernel_rfl)
def f16t8 N a b c (K:KT ρ):=vL (f16s2 a b c) (f16t8L N (jK f16l3 K) N a b c) (by kernel_rfl)
def f16t7 N a b c (K:KT ρ):=vB 0 f16l3 K (z15.Z7 N a b c (K .nrm zsn) (λd=>K .ret (zk2 d))) (f16t8 N a b c _) (by kernel_rfl)
def f16t5 N a b (K:KT ρ):=vQ (λk=>z15.Z6 N a b k) (f16t6 N a b _) (fx3 λa b c=>f16t7 N a b c K)
def f16t10 N  (K:KT ρ):f16j N 15 zsn f16lE K =
 z15.Z10 N (λa=>K .ret (zk2 a)):=by kernel_rfl
def f16t4 N a b (K:KT ρ):=vQ (λk=>z15.Z5 N a b k (λc=>K .ret (zk2 c))) (f16t5 N a b _) (f16t10 N K)
def f16t2 N a b (K:KT ρ):=vQ (λk=>z15.Z3 N a b k (λc=>K .ret (zk2 c))) (f16t3 N a b _) (fx2 λa b=>f16t4 N a b K)
def f16t0 N a b (K:KT ρ):=vQ (λk=>z15.Z1 N a b k) (f16t1 N a b _) (fx2 λa b=>f16t2 N a b K)
def f16ok(h:z15.Spec):z0a Tryz.prog 16 e16 :=
 okC Tryz.func16 z2t f16GOk (λN X K=>f16t0 N X.1 X.2.1 K) (by kernel_rfl) λX hb hp=>by
  obtain⟨a,b,_⟩:=X
  obtain⟨N,h⟩:=h a b hb.1 hb.2.1
  exact⟨N,Eq.trans (by kernel_rfl) (h N (Nat.le_refl N))⟩
def e16ok:z0a Tryz.prog 16 e16:=f16ok z15.ok
end Go.Fw
namespace Go.Fw
variable {ρ : Type}
open Go.Proofs
def f52sig:Sig:=⟨[⟨.sl 3 (.int .i64),false,true⟩,⟨.int .i64,false,false⟩],[⟨.int .i64,false,false⟩]⟩
def e52:z29:=⟨f52sig,none,λX=>((z0k.g X.1 X.2.1).1,((z0k.g X.1 X.2.1).2,()))⟩
def f52G:Gm:=z1r
def f52GOk:GOk Tryz.prog f52G:=GOk.nil
def f52lE:z00:=⟨[],[],[],[],[]⟩
def f52s0(a:LI)(b:Int):St:=z1p f52sig.ps (a,(b,()))
def f52s1(a:LI)(b:Int):St:=z14 [(0,xo 1000000),(1,xi b),(100000,xo 1000000)] [] [(1000000,(⟨3,.int .i64,a,true,false⟩:Row))]
def f52l1:z00:=⟨[0,1,100000],[],[],[],[(⟨false,0,0⟩,1000000)]⟩
def f52s2(a:LI)(b c:Int):St:=z14 [(0,xo 1000000),(1,xi b),(5,xi c),(100000,xo 1000000)] [] [(1000000,(⟨3,.int .i64,a,true,false⟩:Row))]
def f52l2:z00:=⟨[0,1,5,100000],[],[],[],[(⟨false,0,0⟩,1000000)]⟩
def zsb(a:LI)(b:Int):St:=z14 [(1,xi b),(100000,xo 7400000)] [] [(7400000,(⟨3,.int .i64,a,true,false⟩:Row))]
def f52l3:z00:=⟨[1,100000],[],[],[],[(⟨false,100000,0⟩,7400000)]⟩
def f52s4(a:LI)(b:Int):St:=z14 [(4,xi b),(100000,xo 7400000)] [] [(7400000,(⟨3,.int .i64,a,true,false⟩:Row))]
def f52l4:z00:=⟨[4,100000],[],[],[],[(⟨false,100000,0⟩,7400000)]⟩
def f52B:Nat->Option z00:=z1b [(0,f52l3),(1000000,f52l4)]
abbrev f52j{ρ:Type}(N n:Nat)(σ:St)(l:z00)(K:KT ρ):Option ρ:=z0r f52G tab f52B N (z2q 99 (z1s Tryz.f52) n) .n σ (z16 (some l) K)
def f52t1 N a b (K:KT ρ):f52j N 2 (f52s0 a b) f52l1 K =
 z0k.Z1 N a b (λa b=>K .nrm (f52s1 a b)):=by kernel_rfl
def f52t4 N a b (K:KT ρ):f52j N 9 (f52s1 a b) f52l2 K =
 z0k.Z4 N a b (λa b c=>K .nrm (f52s2 a b c)):=by kernel_rfl
def f52t7 N b a c (K:KT ρ):f52j N 37 (f52s2 b a c) f52l2 K =
 z0k.Z7 N b a c (λb a c=>K .nrm (f52s2 b a c)) (λd a=>K (.exit 0) (zsb d a)):=by kernel_rfl
def f52t6L N (K:KT ρ):=lp3 K (z0k.Z6L N (λb a=>K (.exit 0) (zsb b a))) (λc a d k=>z0k.Z7 N c a d k (λb a=>K (.exit 0) (zsb b a))) (λF c a d=>f52t7 N c a d _) (by kernel_rfl)
def f52t6 N a b c (K:KT ρ):=vL (f52s2 a b c) (f52t6L N (jK f52l3 K) N a b c) (by kernel_rfl)
def f52t5 N b a c (K:KT ρ):=vB 0 f52l3 K (z0k.Z5 N b a c (λd a=>K .nrm (zsb d a))) (f52t6 N b a c _) (by kernel_rfl)
def f52t3 N a b (K:KT ρ):=vQ (λk=>z0k.Z4 N a b k) (f52t4 N a b _) (fx3 λa b c=>f52t5 N a b c K)
def f52t8 N a b (K:KT ρ):f52j N 7 (zsb a b) f52lE K =
 z0k.Z8 N a b (λa c=>K .ret (f52s4 a c)):=by kernel_rfl
def f52t2 N b a (K:KT ρ):=vQ (λk=>z0k.Z3 N b a k) (f52t3 N b a _) (fx2 λc a=>f52t8 N c a K)
def f52t0 N a b (K:KT ρ):=vQ (λk=>z0k.Z1 N a b k) (f52t1 N a b _) (fx2 λa b=>f52t2 N a b K)
def f52ok(h:z0k.Spec):z0a Tryz.prog 52 e52 :=
 okC Tryz.func52 z2t f52GOk (λN X K=>f52t0 N X.1 X.2.1 K) (by kernel_rfl) λX hb hp=>by
  obtain⟨a,b,_⟩:=X
  obtain⟨N,h⟩:=h a b hb.1
  exact⟨N,Eq.trans (by kernel_rfl) (h N (Nat.le_refl N))⟩
def e52ok:z0a Tryz.prog 52 e52:=f52ok z0k.ok
end Go.Fw
namespace Go.Fw
variable {ρ : Type}
open Go.Proofs
def f17sig:Sig:=⟨[⟨.pair (.int .i64) (.pair (.int .i64) (.sl 3 (.int .i64))),true,true⟩,⟨.int .i64,false,false⟩],[⟨.int .i64,false,false⟩]⟩
def e17:z29:=⟨f17sig,none,λX=>((z23.g X.1 X.2.1).1,((z23.g X.1 X.2.1).2,()))⟩
def f17G:Gm:=z3q z1r 52 e52
def f17GOk:GOk Tryz.prog f17G:=(GOk.nil).add e52ok (by kernel_rfl)
def f17lE:z00:=⟨[],[],[],[],[]⟩
def f17s0(a:MT)(b:Int):St:=z1p f17sig.ps (a,(b,()))
def f17s1(a:LI)(b c d:Int):St:=z14 [(4,xi b),(100000,.agg [yi c,yi d,.own 7400002])] [] [(7400002,(⟨3,.int .i64,a,true,false⟩:Row))]
def f17l1:z00:=⟨[4,100000],[],[],[],[(⟨false,100000,2⟩,7400002)]⟩
def f17B:Nat->Option z00:=z1b [(1000000,f17l1)]
abbrev f17j{ρ:Type}(N n:Nat)(σ:St)(l:z00)(K:KT ρ):Option ρ:=z0r f17G tab f17B N (z2q 99 (z1s Tryz.f17) n) .n σ (z16 (some l) K)
def f17t0 N a b (K:KT ρ):f17j N 1 (f17s0 a b) f17lE K =
 z23.Z0 N a b (λc d e f=>K .ret (f17s1 c d e f)):=by kernel_rfl
def f17ok(h:z23.Spec):z0a Tryz.prog 17 e17 :=
 okC Tryz.func17 z2t f17GOk (λN X K=>f17t0 N X.1 X.2.1 K) (by kernel_rfl) λX hb hp=>by
  obtain⟨a,b,_⟩:=X
  obtain⟨N,h⟩:=h a b hb.1
  exact⟨N,Eq.trans (by kernel_rfl) (h N (Nat.le_refl N))⟩
def e17ok:z0a Tryz.prog 17 e17:=f17ok z23.ok
end Go.Fw
namespace Go.Fw
variable {ρ : Type}
open Go.Proofs
def f18sig:Sig:=⟨[⟨.sl 27 (.pair (.int .i64) (.pair (.int .i64) (.sl 3 (.int .i64)))),false,true⟩,⟨.int .i64,false,false⟩],[⟨.int .i64,false,false⟩]⟩
def e18:z29:=⟨f18sig,none,λX=>((z0i.g X.1 X.2.1).1,((z0i.g X.1 X.2.1).2,()))⟩
def f18G:Gm:=z3q z1r 52 e52
def f18GOk:GOk Tryz.prog f18G:=(GOk.nil).add e52ok (by kernel_rfl)
def f18lE:z00:=⟨[],[],[],[],[]⟩
def f18s0(a:LM)(b:Int):St:=z1p f18sig.ps (a,(b,()))
def f18s1(a:LM)(b:Int):St:=z14 [(0,xo 1000000),(1,xi b),(100000,xo 1000000)] [] [(1000000,(⟨27,tM 3,a,true,false⟩:Row))]
def f18l1:z00:=⟨[0,1,100000],[],[],[],[(⟨false,0,0⟩,1000000)]⟩
def f18s2(a:LM)(b c:Int):St:=z14 [(0,xo 1000000),(1,xi b),(5,xi c),(100000,xo 1000000)] [] [(1000000,(⟨27,tM 3,a,true,false⟩:Row))]
def f18l2:z00:=⟨[0,1,5,100000],[],[],[],[(⟨false,0,0⟩,1000000)]⟩
def zsi(a:LM)(b:Int):St:=z14 [(1,xi b),(100000,xo 7400000)] [] [(7400000,(⟨27,tM 3,a,true,false⟩:Row))]
def f18l3:z00:=⟨[1,100000],[],[],[],[(⟨false,100000,0⟩,7400000)]⟩
def f18s4(a:LM)(b:Int):St:=z14 [(4,xi b),(100000,xo 7400000)] [] [(7400000,(⟨27,tM 3,a,true,false⟩:Row))]
def f18l4:z00:=⟨[4,100000],[],[],[],[(⟨false,100000,0⟩,7400000)]⟩
def f18B:Nat->Option z00:=z1b [(0,f18l3),(1000000,f18l4)]
abbrev f18j{ρ:Type}(N n:Nat)(σ:St)(l:z00)(K:KT ρ):Option ρ:=z0r f18G tab f18B N (z2q 99 (z1s Tryz.f18) n) .n σ (z16 (some l) K)
def f18t1 N a b (K:KT ρ):f18j N 2 (f18s0 a b) f18l1 K =
 z0i.Z1 N a b (λa b=>K .nrm (f18s1 a b)):=by kernel_rfl
def f18t4 N a b (K:KT ρ):f18j N 9 (f18s1 a b) f18l2 K =
 z0i.Z4 N a b (λa b c=>K .nrm (f18s2 a b c)):=by kernel_rfl
def f18t7 N b a c (K:KT ρ):f18j N 37 (f18s2 b a c) f18l2 K =
 z0i.Z7 N b a c (λb a c=>K .nrm (f18s2 b a c)) (λd a=>K (.exit 0) (zsi d a)):=by kernel_rfl
def f18t6L N (K:KT ρ):=lp3 K (z0i.Z6L N (λb a=>K (.exit 0) (zsi b a))) (λc a d k=>z0i.Z7 N c a d k (λb a=>K (.exit 0) (zsi b a))) (λF c a d=>f18t7 N c a d _) (by kernel_rfl)
def f18t6 N a b c (K:KT ρ):=vL (f18s2 a b c) (f18t6L N (jK f18l3 K) N a b c) (by kernel_rfl)
def f18t5 N b a c (K:KT ρ):=vB 0 f18l3 K (z0i.Z5 N b a c (λd a=>K .nrm (zsi d a))) (f18t6 N b a c _) (by kernel_rfl)
def f18t3 N a b (K:KT ρ):=vQ (λk=>z0i.Z4 N a b k) (f18t4 N a b _) (fx3 λa b c=>f18t5 N a b c K)
def f18t8 N a b (K:KT ρ):f18j N 7 (zsi a b) f18lE K =
 z0i.Z8 N a b (λa c=>K .ret (f18s4 a c)):=by kernel_rfl
def f18t2 N b a (K:KT ρ):=vQ (λk=>z0i.Z3 N b a k) (f18t3 N b a _) (fx2 λc a=>f18t8 N c a K)
def f18t0 N a b (K:KT ρ):=vQ (λk=>z0i.Z1 N a b k) (f18t1 N a b _) (fx2 λa b=>f18t2 N a b K)
def f18ok(h:z0i.Spec):z0a Tryz.prog 18 e18 :=
 okC Tryz.func18 z2t f18GOk (λN X K=>f18t0 N X.1 X.2.1 K) (by kernel_rfl) λX hb hp=>by
  obtain⟨a,b,_⟩:=X
  obtain⟨N,h⟩:=h a b hb.1
  exact⟨N,Eq.trans (by kernel_rfl) (h N (Nat.le_refl N))⟩
def e18ok:z0a Tryz.prog 18 e18:=f18ok z0i.ok
end Go.Fw
namespace Go.Fw
variable {ρ : Type}
open Go.Proofs
def f53sig:Sig:=⟨[⟨.sl 3 (.int .i64),false,false⟩,⟨.int .i64,false,false⟩],[⟨.int .i64,false,false⟩]⟩
def e53:z29:=⟨f53sig,none,λX=>((),((z18.g X.1 X.2.1),()))⟩
def f53G:Gm:=z1r
def f53GOk:GOk Tryz.prog f53G:=GOk.nil
def f53lE:z00:=⟨[],[],[],[],[]⟩
def f53s0(a:LI)(b:Int):St:=z1p f53sig.ps (a,(b,()))
def f53s1(a:LI)(b:Int):St:=z14 [(0,.c (.sn 3 tI a none)),(1,xi b)] [] []
def f53l1:z00:=⟨[0,1],[],[],[],[]⟩
def f53s2(a:LI)(b d:Int):St:=z14 [(0,.c (.sn 3 tI a none)),(1,xi b),(5,xi d)] [] []
def f53l2:z00:=⟨[0,1,5],[],[],[],[]⟩
def zsa(a:Int):St:=z14 [(1,xi a)] [] []
def f53l3:z00:=⟨[1],[],[],[],[]⟩
def zpg(a:Int):St:=z14 [(4,xi a)] [] []
def f53l4:z00:=⟨[4],[],[],[],[]⟩
def f53B:Nat->Option z00:=z1b [(0,f53l3),(1000000,f53l4)]
abbrev f53j{ρ:Type}(N n:Nat)(σ:St)(l:z00)(K:KT ρ):Option ρ:=z0r f53G tab f53B N (z2q 99 (z1s Tryz.f53) n) .n σ (z16 (some l) K)
def f53t1 N a b (K:KT ρ):f53j N 2 (f53s0 a b) f53l1 K =
 z18.Z1 N a b (λa b=>K .nrm (f53s1 a b)):=by kernel_rfl
def f53t4 N a b (K:KT ρ):f53j N 9 (f53s1 a b) f53l2 K =
 z18.Z4 N a b (λa b c=>K .nrm (f53s2 a b c)):=by kernel_rfl
def f53t7 N b a c (K:KT ρ):f53j N 37 (f53s2 b a c) f53l2 K =
 z18.Z7 N b a c (λb a c=>K .nrm (f53s2 b a c)) (λa=>K (.exit 0) (zsa a)) (λd=>K .ret (zpg d)):=by kernel_rfl
def f53t6L N (K:KT ρ):=lp3 K (z18.Z6L N (λa=>K (.exit 0) (zsa a)) (λb=>K .ret (zpg b))) (λc a d k=>z18.Z7 N c a d k (λa=>K (.exit 0) (zsa a)) (λb=>K .ret (zpg b))) (λF c a d=>f53t7 N c a d _) (by kernel_rfl)
def f53t6 N a b c (K:KT ρ):=vL (f53s2 a b c) (f53t6L N (jK f53l3 K) N a b c) (by kernel_rfl)
def f53t5 N b a c (K:KT ρ):=vB 0 f53l3 K (z18.Z5 N b a c (λa=>K .nrm (zsa a)) (λd=>K .ret (zpg d))) (f53t6 N b a c _) (by kernel_rfl)
def f53t3 N a b (K:KT ρ):=vQ (λk=>z18.Z4 N a b k) (f53t4 N a b _) (fx3 λa b c=>f53t5 N a b c K)
def f53t8 N a (K:KT ρ):f53j N 7 (zsa a) f53lE K =
 z18.Z8 N a (λb=>K .ret (zpg b)):=by kernel_rfl
def f53t2 N b a (K:KT ρ):=vQ (λk=>z18.Z3 N b a k (λc=>K .ret (zpg c))) (f53t3 N b a _) (funext λa=>f53t8 N a K)
def f53t0 N a b (K:KT ρ):=vQ (λk=>z18.Z1 N a b k) (f53t1 N a b _) (fx2 λa b=>f53t2 N a b K)
def f53ok(h:z18.Spec):z0a Tryz.prog 53 e53 :=
 okC Tryz.func53 z2t f53GOk (λN X K=>f53t0 N X.1 X.2.1 K) (by kernel_rfl) λX hb hp=>by
  obtain⟨a,b,_⟩:=X
  obtain⟨N,h⟩:=h a b hb.1
  exact⟨N,Eq.trans (by kernel_rfl) (h N (Nat.le_refl N))⟩
def e53ok:z0a Tryz.prog 53 e53:=f53ok z18.ok
end Go.Fw
namespace Go.Fw
variable {ρ : Type}
open Go.Proofs
def f19sig:Sig:=⟨[⟨.sl 27 (.pair (.int .i64) (.pair (.int .i64) (.sl 3 (.int .i64)))),false,false⟩,⟨.int .i64,false,false⟩],[⟨.int .i64,false,false⟩]⟩
def e19:z29:=⟨f19sig,none,λX=>((),((z0x.g X.1 X.2.1),()))⟩
def f19G:Gm:=z3q z1r 53 e53
def f19GOk:GOk Tryz.prog f19G:=(GOk.nil).add e53ok (by kernel_rfl)
def f19lE:z00:=⟨[],[],[],[],[]⟩
def f19s0(a:LM)(b:Int):St:=z1p f19sig.ps (a,(b,()))
def f19s1(a:LM)(b:Int):St:=z14 [(0,.c (.sn 27 (tM 3) a none)),(1,xi b)] [] []
def f19l1:z00:=⟨[0,1],[],[],[],[]⟩
def f19s2(a:LM)(b d:Int):St:=z14 [(0,.c (.sn 27 (tM 3) a none)),(1,xi b),(5,xi d)] [] []
def f19l2:z00:=⟨[0,1,5],[],[],[],[]⟩
def zsh(a:Int):St:=z14 [(1,xi a)] [] []
def f19l3:z00:=⟨[1],[],[],[],[]⟩
def zpm(a:Int):St:=z14 [(4,xi a)] [] []
def f19l4:z00:=⟨[4],[],[],[],[]⟩
def f19B:Nat->Option z00:=z1b [(0,f19l3),(1000000,f19l4)]
abbrev f19j{ρ:Type}(N n:Nat)(σ:St)(l:z00)(K:KT ρ):Option ρ:=z0r f19G tab f19B N (z2q 99 (z1s Tryz.f19) n) .n σ (z16 (some l) K)
def f19t1 N a b (K:KT ρ):f19j N 2 (f19s0 a b) f19l1 K =
 z0x.Z1 N a b (λa b=>K .nrm (f19s1 a b)):=by kernel_rfl
def f19t4 N a b (K:KT ρ):f19j N 9 (f19s1 a b) f19l2 K =
 z0x.Z4 N a b (λa b c=>K .nrm (f19s2 a b c)):=by kernel_rfl
def f19t7 N b a c (K:KT ρ):f19j N 37 (f19s2 b a c) f19l2 K =
 z0x.Z7 N b a c (λb a c=>K .nrm (f19s2 b a c)) (λa=>K (.exit 0) (zsh a)) (λd=>K .ret (zpm d)):=by kernel_rfl
def f19t6L N (K:KT ρ):=lp3 K (z0x.Z6L N (λa=>K (.exit 0) (zsh a)) (λb=>K .ret (zpm b))) (λc a d k=>z0x.Z7 N c a d k (λa=>K (.exit 0) (zsh a)) (λb=>K .ret (zpm b))) (λF c a d=>f19t7 N c a d _) (by kernel_rfl)
def f19t6 N a b c (K:KT ρ):=vL (f19s2 a b c) (f19t6L N (jK f19l3 K) N a b c) (by kernel_rfl)
def f19t5 N b a c (K:KT ρ):=vB 0 f19l3 K (z0x.Z5 N b a c (λa=>K .nrm (zsh a)) (λd=>K .ret (zpm d))) (f19t6 N b a c _) (by kernel_rfl)
def f19t3 N a b (K:KT ρ):=vQ (λk=>z0x.Z4 N a b k) (f19t4 N a b _) (fx3 λa b c=>f19t5 N a b c K)
def f19t8 N a (K:KT ρ):f19j N 7 (zsh a) f19lE K =
 z0x.Z8 N a (λb=>K .ret (zpm b)):=by kernel_rfl
def f19t2 N b a (K:KT ρ):=vQ (λk=>z0x.Z3 N b a k (λc=>K .ret (zpm c))) (f19t3 N b a _) (funext λa=>f19t8 N a K)
def f19t0 N a b (K:KT ρ):=vQ (λk=>z0x.Z1 N a b k) (f19t1 N a b _) (fx2 λa b=>f19t2 N a b K)
def f19ok(h:z0x.Spec):z0a Tryz.prog 19 e19 :=
 okC Tryz.func19 z2t f19GOk (λN X K=>f19t0 N X.1 X.2.1 K) (by kernel_rfl) λX hb hp=>by
  obtain⟨a,b,_⟩:=X
  obtain⟨N,h⟩:=h a b hb.1
  exact⟨N,Eq.trans (by kernel_rfl) (h N (Nat.le_refl N))⟩
def e19ok:z0a Tryz.prog 19 e19:=f19ok z0x.ok
end Go.Fw
namespace Go.Fw
variable {ρ : Type}
open Go.Proofs
def f4sig:Sig:=⟨[⟨.pair (.int .i64) (.pair (.int .i64) (.sl 3 (.int .i64))),true,false⟩],[⟨.bool,false,false⟩]⟩
def e4:z29:=⟨f4sig,none,λX=>((),((z04.g X.1),()))⟩
def f4G:Gm:=z3q (z3q (z3q (z3q (z3q (z3q (z3q (z3q (z3q z1r 9 e9) 11 e11) 13 e13) 14 e14) 15 e15) 16 e16) 17 e17) 18 e18) 19 e19
def f4GOk:GOk Tryz.prog f4G:=(((((((((GOk.nil).add e9ok (by kernel_rfl)).add e11ok (by kernel_rfl)).add e13ok (by kernel_rfl)).add e14ok (by kernel_rfl)).add e15ok (by kernel_rfl)).add e16ok (by kernel_rfl)).add e17ok (by kernel_rfl)).add e18ok (by kernel_rfl)).add e19ok (by kernel_rfl)
def f4lE:z00:=⟨[],[],[],[],[]⟩
def f4s0(a:MT):St:=z1p f4sig.ps (a,())
def f4s1(a b:Int)(c:LI):St:=z14 [(1,xb 1)] [(1,(24,[yi a,yi b,.sn 3 tI c none]))] []
def f4l1:z00:=⟨[1],[1],[],[],[]⟩
def f4s2(a b c:Int)(d:LI):St:=z14 [(1,xb 1),(3,xi a)] [(1,(24,[yi b,yi c,.sn 3 tI d none]))] []
def f4l2:z00:=⟨[1,3],[1],[],[],[]⟩
def f4s3(a:LM)(b:Bool)(c d:Int)(e:LI):St:=z14 [(1,xb 1),(4,xo 1000256),(5,xB b)] [(1,(24,[yi c,yi d,.sn 3 tI e none]))] [(1000256,(⟨27,tM 3,a,true,false⟩:Row))]
def f4l3:z00:=⟨[1,4,5],[1],[],[],[(⟨false,4,0⟩,1000256)]⟩
def f4s4(a:LM)(b:LI)(c:Bool)(d e:Int)(f:LI)(g h:Int):St:=z14 [(1,xb 1),(4,xo 1000256),(5,xB c),(6,xb 6)] [(1,(24,[yi d,yi e,.sn 3 tI f none])),(6,(27,[yi g,yi h,.own 20000386]))] [(1000256,(⟨27,tM 3,a,true,false⟩:Row)),(20000386,(⟨3,.int .i64,b,true,false⟩:Row))]
def f4l4:z00:=⟨[1,4,5,6],[1,6],[],[],[(⟨false,4,0⟩,1000256),(⟨true,6,2⟩,20000386)]⟩
def f4s5(a b:LM)(c:LI)(d e:Bool)(f g:Int)(h:LI)(i j:Int):St:=z14 [(1,xb 1),(4,xo 1000256),(5,xB d),(6,xb 6),(7,xo 1000448),(8,xB e)] [(1,(24,[yi f,yi g,.sn 3 tI h none])),(6,(27,[yi i,yi j,.own 20000386]))] [(1000256,(⟨27,tM 3,a,true,false⟩:Row)),(1000448,(⟨27,tM 3,b,true,false⟩:Row)),(20000386,(⟨3,.int .i64,c,true,false⟩:Row))]
def f4l5:z00:=⟨[1,4,5,6,7,8],[1,6],[],[],[(⟨false,4,0⟩,1000256),(⟨false,7,0⟩,1000448),(⟨true,6,2⟩,20000386)]⟩
def f4s6(a b:LM)(c:LI)(d e:Bool)(f g h:Int)(i:LI)(j l:Int):St:=z14 [(1,xb 1),(4,xo 1000256),(5,xB d),(6,xb 6),(7,xo 1000448),(8,xB e),(9,xi f)] [(1,(24,[yi g,yi h,.sn 3 tI i none])),(6,(27,[yi j,yi l,.own 20000386]))] [(1000256,(⟨27,tM 3,a,true,false⟩:Row)),(1000448,(⟨27,tM 3,b,true,false⟩:Row)),(20000386,(⟨3,.int .i64,c,true,false⟩:Row))]
def f4l6:z00:=⟨[1,4,5,6,7,8,9],[1,6],[],[],[(⟨false,4,0⟩,1000256),(⟨false,7,0⟩,1000448),(⟨true,6,2⟩,20000386)]⟩
def f4s7(a b:LM)(c d:Bool)(e f g:Int)(h:LI):St:=z14 [(1,xb 1),(4,xo 1000256),(5,xB c),(7,xo 1000448),(8,xB d),(9,xi e)] [(1,(24,[yi f,yi g,.sn 3 tI h none]))] [(1000256,(⟨27,tM 3,a,true,false⟩:Row)),(1000448,(⟨27,tM 3,b,true,false⟩:Row))]
def f4l7:z00:=⟨[1,4,5,7,8,9],[1],[],[],[(⟨false,4,0⟩,1000256),(⟨false,7,0⟩,1000448)]⟩
def f4s8(a b:LM)(c:Bool)(d e:Int)(f:LI):St:=z14 [(1,xb 1),(4,xo 1000256),(5,xB c),(7,xo 1000448)] [(1,(24,[yi d,yi e,.sn 3 tI f none]))] [(1000256,(⟨27,tM 3,a,true,false⟩:Row)),(1000448,(⟨27,tM 3,b,true,false⟩:Row))]
def f4l8:z00:=⟨[1,4,5,7],[1],[],[],[(⟨false,4,0⟩,1000256),(⟨false,7,0⟩,1000448)]⟩
def f4s9(a:Bool):St:=z14 [(2,xB a)] [] []
def f4l9:z00:=⟨[2],[],[],[],[]⟩
def f4B:Nat->Option z00:=z1b [(1000000,f4l9)]
abbrev f4j{ρ:Type}(N n:Nat)(σ:St)(l:z00)(K:KT ρ):Option ρ:=z0r f4G tab f4B N (z2q 99 (z1s Tryz.f4) n) .n σ (z16 (some l) K)
def f4t1 N a (K:KT ρ):f4j N 2 (f4s0 a) f4l1 K =
 z04.Z1 N a (λb c d=>K .nrm (f4s1 b c d)):=by kernel_rfl
def f4t3 N a b c (K:KT ρ):f4j N 5 (f4s1 a b c) f4l2 K =
 z04.Z3 N a b c (λd a b c=>K .nrm (f4s2 d a b c)):=by kernel_rfl
def f4t5 N a b c d (K:KT ρ):f4j N 11 (f4s2 a b c d) f4l2 K =
 z04.Z5 N a b c d (λa b c d=>K .nrm (f4s2 a b c d)):=by kernel_rfl
def f4t7 N d a b c (K:KT ρ):f4j N 23 (f4s2 d a b c) f4l1 K =
 z04.Z7 N d a b c (λa b c=>K .nrm (f4s1 a b c)) (λe=>K .ret (f4s9 e)):=by kernel_rfl
def f4t9 N a b c (K:KT ρ):f4j N 47 (f4s1 a b c) f4l3 K =
 z04.Z9 N a b c (λd e a b c=>K .nrm (f4s3 d e a b c)):=by kernel_rfl
def f4t11 N a b c d e (K:KT ρ):f4j N 95 (f4s3 a b c d e) f4l4 K =
 z04.Z11 N a b c d e (λa f b c d e g h=>K .nrm (f4s4 a f b c d e g h)):=by kernel_rfl
def f4t13 N a b c d e f g h (K:KT ρ):f4j N 191 (f4s4 a b c d e f g h) f4l5 K =
 z04.Z13 N a b c d e f g h (λa i b c j d e f g h=>K .nrm (f4s5 a i b c j d e f g h)):=by kernel_rfl
def f4t15 N a b c d e f g h i j (K:KT ρ):f4j N 383 (f4s5 a b c d e f g h i j) f4l5 K =
 z04.Z15 N a b c d e f g h i j (λa b c d e f g h i j=>K .nrm (f4s5 a b c d e f g h i j)) (λl=>K .ret (f4s9 l)):=by kernel_rfl
def f4t17 N a b c d e f g h i j (K:KT ρ):f4j N 767 (f4s5 a b c d e f g h i j) f4l5 K =
 z04.Z17 N a b c d e f g h i j (λa b c d e f g h i j=>K .nrm (f4s5 a b c d e f g h i j)) (λl=>K .ret (f4s9 l)):=by kernel_rfl
def f4t19 N a b c d e f g h i j (K:KT ρ):f4j N 1535 (f4s5 a b c d e f g h i j) f4l6 K =
 z04.Z19 N a b c d e f g h i j (λa b c d e l f g h i j=>K .nrm (f4s6 a b c d e l f g h i j)):=by kernel_rfl
def f4t21 N a b i c d e f g h j l (K:KT ρ):f4j N 3071 (f4s6 a b i c d e f g h j l) f4l7 K =
 z04.Z21 N a b i c d e f g h j l (λa b c d e f g h=>K .nrm (f4s7 a b c d e f g h)):=by kernel_rfl
def f4t23 N a b c g h d e f (K:KT ρ):f4j N 6143 (f4s7 a b c g h d e f) f4l8 K =
 z04.Z23 N a b c g h d e f (λa b c d e f=>K .nrm (f4s8 a b c d e f)) (λi=>K .ret (f4s9 i)):=by kernel_rfl
def f4t24 N a b c d e f (K:KT ρ):f4j N 8191 (f4s8 a b c d e f) f4lE K =
 z04.Z24 N a b c d e f (λg=>K .ret (f4s9 g)):=by kernel_rfl
def f4t22 N a b c g h d e f (K:KT ρ):=vQ (λk=>z04.Z23 N a b c g h d e f k (λi=>K .ret (f4s9 i))) (f4t23 N a b c g h d e f _) (fx6 λa b c d e f=>f4t24 N a b c d e f K)
def f4t20 N a b i c d e f g h j l (K:KT ρ):=vQ (λk=>z04.Z21 N a b i c d e f g h j l k) (f4t21 N a b i c d e f g h j l _) (fx8 λa b c d e f g h=>f4t22 N a b c d e f g h K)
def f4t18 N a b c d e f g h i j (K:KT ρ):=vQ (λk=>z04.Z19 N a b c d e f g h i j k) (f4t19 N a b c d e f g h i j _) (zky λa b c d e l f g h i j=>f4t20 N a b c d e l f g h i j K)
def f4t16 N a b c d e f g h i j (K:KT ρ):=vQ (λk=>z04.Z17 N a b c d e f g h i j k (λl=>K .ret (f4s9 l))) (f4t17 N a b c d e f g h i j _) (zdc λa b c d e f g h i j=>f4t18 N a b c d e f g h i j K)
def f4t14 N a b c d e f g h i j (K:KT ρ):=vQ (λk=>z04.Z15 N a b c d e f g h i j k (λl=>K .ret (f4s9 l))) (f4t15 N a b c d e f g h i j _) (zdc λa b c d e f g h i j=>f4t16 N a b c d e f g h i j K)
def f4t12 N a b c d e f g h (K:KT ρ):=vQ (λk=>z04.Z13 N a b c d e f g h k) (f4t13 N a b c d e f g h _) (zdc λa i b c j d e f g h=>f4t14 N a i b c j d e f g h K)
def f4t10 N a b c d e (K:KT ρ):=vQ (λk=>z04.Z11 N a b c d e k) (f4t11 N a b c d e _) (fx8 λa f b c d e g h=>f4t12 N a f b c d e g h K)
def f4t8 N a b c (K:KT ρ):=vQ (λk=>z04.Z9 N a b c k) (f4t9 N a b c _) (fx5 λd e a b c=>f4t10 N d e a b c K)
def f4t6 N d a b c (K:KT ρ):=vQ (λk=>z04.Z7 N d a b c k (λe=>K .ret (f4s9 e))) (f4t7 N d a b c _) (fx3 λa b c=>f4t8 N a b c K)
def f4t4 N a b c d (K:KT ρ):=vQ (λk=>z04.Z5 N a b c d k) (f4t5 N a b c d _) (fx4 λa b c d=>f4t6 N a b c d K)
def f4t2 N a b c (K:KT ρ):=vQ (λk=>z04.Z3 N a b c k) (f4t3 N a b c _) (fx4 λd a b c=>f4t4 N d a b c K)
def f4t0 N a (K:KT ρ):=vQ (λk=>z04.Z1 N a k) (f4t1 N a _) (fx3 λb c d=>f4t2 N b c d K)
def f4ok(h:z04.Spec):z0a Tryz.prog 4 e4 :=
 okC Tryz.func4 z2t f4GOk (λN X K=>f4t0 N X.1 K) (by kernel_rfl) λX hb hp=>by
  obtain⟨a,_⟩:=X
  obtain⟨N,h⟩:=h a hb.1
  exact⟨N,Eq.trans (by kernel_rfl) (h N (Nat.le_refl N))⟩
def e4ok:z0a Tryz.prog 4 e4:=f4ok z04.ok
end Go.Fw
