/- The ties: the program's text comes to the plain functions. Nothing is assumed. -/
import Derived.Test.YtkjnhmjfdfiklaaGreatDoorPuFnExactTypeNamec
import Derived.Test.YtkjnhmjfdfiklaaGreatDoorTiFnExactTypeNamea
import Derived.Test.YtkjnhmjfdfiklaaGreatDoorFza
import Derived.Test.YtkjnhmjfdfiklaaGreatDoorChecked
noncomputable section
set_option linter.defProp false
set_option linter.unusedSectionVars false
set_option linter.unusedVariables false
set_option linter.unusedSimpArgs false
set_option maxRecDepth 100000
namespace Go.Fw
variable {J : Type}
open Go.Proofs
def Jh:aW:=⟨[⟨.pair (.int .i64) (.pair (.int .i64) (.sl 3 (.int .i64))),true,false⟩],[⟨.sl 3 (.int .i64),false,true⟩]⟩
def Bp:aK:=⟨Jh,(some λX=>aH.P X.1),λX=>((),((aH.g X.1),()))⟩
def Ji:Gm:=aD (aD bi 83 ml) 143 Bm
def f103GOk:aw Tryz.prog Ji:=((aw.nil).add qc (by kernel_rfl)).add e143ok (by kernel_rfl)
def f103lE:ab:=⟨[],[],[],[],[]⟩
def f103s0(a:MT):St:=be Jh.ps (a,())
def Jj(a b:Int)(c:LI):St:=af [(1,xb 1)] [(1,(27,[yi a,yi b,.sn 3 tI c none]))] []
def f103l1:ab:=⟨[1],[1],[],[],[]⟩
def Jk(a b:LI)(c d:Int)(e:LI):St:=af [(1,xb 1),(3,xo 1000192),(4,xo 1000256)] [(1,(27,[yi c,yi d,.sn 3 tI e none]))] [(1000192,(⟨3,.int .i64,a,true,false⟩:ac)),(1000256,(⟨3,.int .i64,b,true,false⟩:ac))]
def f103l2:ab:=⟨[1,3,4],[1],[],[],[(⟨false,3,0⟩,1000192),(⟨false,4,0⟩,1000256)]⟩
def Jl(a b c:LI)(d e:Int)(f:LI):St:=af [(1,xb 1),(3,xo 1000192),(4,xo 1000256),(5,xo 1000320)] [(1,(27,[yi d,yi e,.sn 3 tI f none]))] [(1000192,(⟨3,.int .i64,a,true,false⟩:ac)),(1000256,(⟨3,.int .i64,b,true,false⟩:ac)),(1000320,(⟨3,.int .i64,c,true,false⟩:ac))]
def f103l3:ab:=⟨[1,3,4,5],[1],[],[],[(⟨false,3,0⟩,1000192),(⟨false,4,0⟩,1000256),(⟨false,5,0⟩,1000320)]⟩
def g8(a b c:LI)(d e f g:Int)(h:LI):St:=af [(1,xb 1),(3,xo 1000192),(4,xo 1000256),(5,xo 1000320),(34,xi d),(35,xi e)] [(1,(27,[yi f,yi g,.sn 3 tI h none]))] [(1000192,(⟨3,.int .i64,a,true,false⟩:ac)),(1000256,(⟨3,.int .i64,b,true,false⟩:ac)),(1000320,(⟨3,.int .i64,c,true,false⟩:ac))]
def mm:ab:=⟨[1,3,4,5,34,35],[1],[],[],[(⟨false,3,0⟩,1000192),(⟨false,4,0⟩,1000256),(⟨false,5,0⟩,1000320)]⟩
def Jm(a b c:LI)(d e:Int)(f:Bool)(g h:Int)(i:LI):St:=af [(1,xb 1),(3,xo 1000192),(4,xo 1000256),(5,xo 1000320),(34,xi d),(35,xi e),(36,xB f)] [(1,(27,[yi g,yi h,.sn 3 tI i none]))] [(1000192,(⟨3,.int .i64,a,true,false⟩:ac)),(1000256,(⟨3,.int .i64,b,true,false⟩:ac)),(1000320,(⟨3,.int .i64,c,true,false⟩:ac))]
def f103l5:ab:=⟨[1,3,4,5,34,35,36],[1],[],[],[(⟨false,3,0⟩,1000192),(⟨false,4,0⟩,1000256),(⟨false,5,0⟩,1000320)]⟩
def qd(a b c:LI)(d e f g h:Int)(i:LI):St:=af [(1,xb 1),(3,xo 1000192),(4,xo 1000256),(5,xo 1000320),(6,xi d),(34,xi e),(35,xi f)] [(1,(27,[yi g,yi h,.sn 3 tI i none]))] [(1000192,(⟨3,.int .i64,a,true,false⟩:ac)),(1000256,(⟨3,.int .i64,b,true,false⟩:ac)),(1000320,(⟨3,.int .i64,c,true,false⟩:ac))]
def Bq:ab:=⟨[1,3,4,5,6,34,35],[1],[],[],[(⟨false,3,0⟩,1000192),(⟨false,4,0⟩,1000256),(⟨false,5,0⟩,1000320)]⟩
def mo(a b c d:LI)(e f g h:Int)(i:LI):St:=af [(1,xb 1),(3,xo 1000192),(4,xo 1000256),(5,xo 1000320),(7,xo 1000448),(34,xi e),(35,xi f)] [(1,(27,[yi g,yi h,.sn 3 tI i none]))] [(1000192,(⟨3,.int .i64,a,true,false⟩:ac)),(1000256,(⟨3,.int .i64,b,true,false⟩:ac)),(1000320,(⟨3,.int .i64,c,true,false⟩:ac)),(1000448,(⟨3,.int .i64,d,true,false⟩:ac))]
def wk:ab:=⟨[1,3,4,5,7,34,35],[1],[],[],[(⟨false,3,0⟩,1000192),(⟨false,4,0⟩,1000256),(⟨false,5,0⟩,1000320),(⟨false,7,0⟩,1000448)]⟩
def iJ(a b c d:LI)(e f g h i:Int)(j:LI):St:=af [(1,xb 1),(3,xo 1000192),(4,xo 1000256),(5,xo 1000320),(7,xo 1000448),(8,xi e),(34,xi f),(35,xi g)] [(1,(27,[yi h,yi i,.sn 3 tI j none]))] [(1000192,(⟨3,.int .i64,a,true,false⟩:ac)),(1000256,(⟨3,.int .i64,b,true,false⟩:ac)),(1000320,(⟨3,.int .i64,c,true,false⟩:ac)),(1000448,(⟨3,.int .i64,d,true,false⟩:ac))]
def mq:ab:=⟨[1,3,4,5,7,8,34,35],[1],[],[],[(⟨false,3,0⟩,1000192),(⟨false,4,0⟩,1000256),(⟨false,5,0⟩,1000320),(⟨false,7,0⟩,1000448)]⟩
def Jn(a b c d:LI)(e f g h i j:Int)(l:LI):St:=af [(1,xb 1),(3,xo 1000192),(4,xo 1000256),(5,xo 1000320),(7,xo 1000448),(8,xi e),(9,xi f),(34,xi g),(35,xi h)] [(1,(27,[yi i,yi j,.sn 3 tI l none]))] [(1000192,(⟨3,.int .i64,a,true,false⟩:ac)),(1000256,(⟨3,.int .i64,b,true,false⟩:ac)),(1000320,(⟨3,.int .i64,c,true,false⟩:ac)),(1000448,(⟨3,.int .i64,d,true,false⟩:ac))]
def f103l9:ab:=⟨[1,3,4,5,7,8,9,34,35],[1],[],[],[(⟨false,3,0⟩,1000192),(⟨false,4,0⟩,1000256),(⟨false,5,0⟩,1000320),(⟨false,7,0⟩,1000448)]⟩
def jL(a b c d:LI)(e f g h i j l m:Int)(o:LI):St:=af [(1,xb 1),(3,xo 1000192),(4,xo 1000256),(5,xo 1000320),(7,xo 1000448),(8,xi e),(9,xi f),(34,xi g),(35,xi h),(62,xi i),(63,xi j)] [(1,(27,[yi l,yi m,.sn 3 tI o none]))] [(1000192,(⟨3,.int .i64,a,true,false⟩:ac)),(1000256,(⟨3,.int .i64,b,true,false⟩:ac)),(1000320,(⟨3,.int .i64,c,true,false⟩:ac)),(1000448,(⟨3,.int .i64,d,true,false⟩:ac))]
def qe:ab:=⟨[1,3,4,5,7,8,9,34,35,62,63],[1],[],[],[(⟨false,3,0⟩,1000192),(⟨false,4,0⟩,1000256),(⟨false,5,0⟩,1000320),(⟨false,7,0⟩,1000448)]⟩
def Jo(a b c d:LI)(e f g h i j:Int)(l:Bool)(m o:Int)(p:LI):St:=af [(1,xb 1),(3,xo 1000192),(4,xo 1000256),(5,xo 1000320),(7,xo 1000448),(8,xi e),(9,xi f),(34,xi g),(35,xi h),(62,xi i),(63,xi j),(64,xB l)] [(1,(27,[yi m,yi o,.sn 3 tI p none]))] [(1000192,(⟨3,.int .i64,a,true,false⟩:ac)),(1000256,(⟨3,.int .i64,b,true,false⟩:ac)),(1000320,(⟨3,.int .i64,c,true,false⟩:ac)),(1000448,(⟨3,.int .i64,d,true,false⟩:ac))]
def f103l11:ab:=⟨[1,3,4,5,7,8,9,34,35,62,63,64],[1],[],[],[(⟨false,3,0⟩,1000192),(⟨false,4,0⟩,1000256),(⟨false,5,0⟩,1000320),(⟨false,7,0⟩,1000448)]⟩
def Jp(a b c d:LI)(e f g h i j l m o:Int)(p:LI):St:=af [(1,xb 1),(3,xo 1000192),(4,xo 1000256),(5,xo 1000320),(7,xo 1000448),(8,xi e),(9,xi f),(10,xi g),(34,xi h),(35,xi i),(62,xi j),(63,xi l)] [(1,(27,[yi m,yi o,.sn 3 tI p none]))] [(1000192,(⟨3,.int .i64,a,true,false⟩:ac)),(1000256,(⟨3,.int .i64,b,true,false⟩:ac)),(1000320,(⟨3,.int .i64,c,true,false⟩:ac)),(1000448,(⟨3,.int .i64,d,true,false⟩:ac))]
def f103l12:ab:=⟨[1,3,4,5,7,8,9,10,34,35,62,63],[1],[],[],[(⟨false,3,0⟩,1000192),(⟨false,4,0⟩,1000256),(⟨false,5,0⟩,1000320),(⟨false,7,0⟩,1000448)]⟩
def wl(a b c d:LI)(e f g h i j l m o p q:Int)(r:LI):St:=af [(1,xb 1),(3,xo 1000192),(4,xo 1000256),(5,xo 1000320),(7,xo 1000448),(8,xi e),(9,xi f),(10,xi g),(11,xi h),(12,xi i),(34,xi j),(35,xi l),(62,xi m),(63,xi o)] [(1,(27,[yi p,yi q,.sn 3 tI r none]))] [(1000192,(⟨3,.int .i64,a,true,false⟩:ac)),(1000256,(⟨3,.int .i64,b,true,false⟩:ac)),(1000320,(⟨3,.int .i64,c,true,false⟩:ac)),(1000448,(⟨3,.int .i64,d,true,false⟩:ac))]
def Jq:ab:=⟨[1,3,4,5,7,8,9,10,11,12,34,35,62,63],[1],[],[],[(⟨false,3,0⟩,1000192),(⟨false,4,0⟩,1000256),(⟨false,5,0⟩,1000320),(⟨false,7,0⟩,1000448)]⟩
def nZ(a b c d:LI)(e f g h i:Int)(j:LI):St:=af [(1,xb 1),(3,xo 1000192),(4,xo 1000256),(5,xo 1000320),(7,xo 1000448),(16,xi e),(34,xi f),(35,xi g)] [(1,(27,[yi h,yi i,.sn 3 tI j none]))] [(1000192,(⟨3,.int .i64,a,true,false⟩:ac)),(1000256,(⟨3,.int .i64,b,true,false⟩:ac)),(1000320,(⟨3,.int .i64,c,true,false⟩:ac)),(1000448,(⟨3,.int .i64,d,true,false⟩:ac))]
def wm:ab:=⟨[1,3,4,5,7,16,34,35],[1],[],[],[(⟨false,3,0⟩,1000192),(⟨false,4,0⟩,1000256),(⟨false,5,0⟩,1000320),(⟨false,7,0⟩,1000448)]⟩
def wn(a b c d:LI)(e f g h i j l:Int)(m:LI):St:=af [(1,xb 1),(3,xo 1000192),(4,xo 1000256),(5,xo 1000320),(7,xo 1000448),(16,xi e),(34,xi f),(35,xi g),(158,xo 1000448),(159,xi h),(160,xi i)] [(1,(27,[yi j,yi l,.sn 3 tI m none]))] [(1000192,(⟨3,.int .i64,a,true,false⟩:ac)),(1000256,(⟨3,.int .i64,b,true,false⟩:ac)),(1000320,(⟨3,.int .i64,c,true,false⟩:ac)),(1000448,(⟨3,.int .i64,d,true,false⟩:ac))]
def Jr:ab:=⟨[1,3,4,5,7,16,34,35,158,159,160],[1],[],[],[(⟨false,3,0⟩,1000192),(⟨false,4,0⟩,1000256),(⟨false,5,0⟩,1000320),(⟨false,7,0⟩,1000448)]⟩
def Js(a b c d:LI)(e f g h i j:Int)(l:LI):St:=af [(1,xb 1),(3,xo 1000192),(4,xo 1000256),(5,xo 1000320),(7,xo 1000448),(16,xi e),(19,xi f),(34,xi g),(35,xi h)] [(1,(27,[yi i,yi j,.sn 3 tI l none]))] [(1000192,(⟨3,.int .i64,a,true,false⟩:ac)),(1000256,(⟨3,.int .i64,b,true,false⟩:ac)),(1000320,(⟨3,.int .i64,c,true,false⟩:ac)),(1000448,(⟨3,.int .i64,d,true,false⟩:ac))]
def f103l16:ab:=⟨[1,3,4,5,7,16,19,34,35],[1],[],[],[(⟨false,3,0⟩,1000192),(⟨false,4,0⟩,1000256),(⟨false,5,0⟩,1000320),(⟨false,7,0⟩,1000448)]⟩
def wo(a b c d:LI)(e f g h i j l m:Int)(o:LI):St:=af [(1,xb 1),(3,xo 1000192),(4,xo 1000256),(5,xo 1000320),(7,xo 1000448),(16,xi e),(19,xi f),(34,xi g),(35,xi h),(178,xo 1000448),(179,xi i),(180,xi j)] [(1,(27,[yi l,yi m,.sn 3 tI o none]))] [(1000192,(⟨3,.int .i64,a,true,false⟩:ac)),(1000256,(⟨3,.int .i64,b,true,false⟩:ac)),(1000320,(⟨3,.int .i64,c,true,false⟩:ac)),(1000448,(⟨3,.int .i64,d,true,false⟩:ac))]
def Jt:ab:=⟨[1,3,4,5,7,16,19,34,35,178,179,180],[1],[],[],[(⟨false,3,0⟩,1000192),(⟨false,4,0⟩,1000256),(⟨false,5,0⟩,1000320),(⟨false,7,0⟩,1000448)]⟩
def sY(a b c d:LI)(e f g h i:Int)(j:LI):St:=af [(1,xb 1),(3,xo 1000192),(4,xo 1000256),(5,xo 1000320),(7,xo 1000448),(19,xi e),(34,xi f),(35,xi g)] [(1,(27,[yi h,yi i,.sn 3 tI j none]))] [(1000192,(⟨3,.int .i64,a,true,false⟩:ac)),(1000256,(⟨3,.int .i64,b,true,false⟩:ac)),(1000320,(⟨3,.int .i64,c,true,false⟩:ac)),(1000448,(⟨3,.int .i64,d,true,false⟩:ac))]
def Br:ab:=⟨[1,3,4,5,7,19,34,35],[1],[],[],[(⟨false,3,0⟩,1000192),(⟨false,4,0⟩,1000256),(⟨false,5,0⟩,1000320),(⟨false,7,0⟩,1000448)]⟩
def wq(a b c d:LI)(e f g h i j l:Int)(m:LI):St:=af [(1,xb 1),(3,xo 1000192),(4,xo 1000256),(5,xo 1000320),(19,xi e),(34,xi f),(35,xi g),(205,xo 1013120),(206,xi h),(207,xi i)] [(1,(27,[yi j,yi l,.sn 3 tI m none]))] [(1000192,(⟨3,.int .i64,a,true,false⟩:ac)),(1000256,(⟨3,.int .i64,b,true,false⟩:ac)),(1000320,(⟨3,.int .i64,c,true,false⟩:ac)),(1013120,(⟨3,.int .i64,d,true,false⟩:ac))]
def Ju:ab:=⟨[1,3,4,5,19,34,35,205,206,207],[1],[],[],[(⟨false,3,0⟩,1000192),(⟨false,4,0⟩,1000256),(⟨false,5,0⟩,1000320),(⟨false,205,0⟩,1013120)]⟩
def qf(a:LI):St:=af [(5,xo 1000320)] [] [(1000320,(⟨3,.int .i64,a,true,false⟩:ac))]
def Bs:ab:=⟨[5],[],[],[],[(⟨false,5,0⟩,1000320)]⟩
def fm(a:LI):St:=af [(2,xo 1001000128)] [] [(1001000128,(⟨3,.int .i64,a,true,true⟩:ac))]
def f103l21:ab:=⟨[2],[],[⟨⟨false,2,0⟩,30000000,3,.int .i64,true⟩],[],[(⟨false,2,0⟩,1001000128)]⟩
def f103B:Nat->Option ab:=az [(5,qe),(4,mq),(3,mq),(2,wk),(6,wm),(8,Br),(10,mm),(1,mm),(0,Bs),(1000000,f103l21)]
abbrev cT{J:Type}(N n:Nat)(U:St)(l:ab)(K:KT J):Option J:=an Ji bm f103B N (a8 99 (bn Tryz.f103) n) .n U (ay (some l) K)
def f103t1 N a (K:KT J):cT N 2 (f103s0 a) f103l1 K =
 aH.Z1 N a (λb c d=>K .nrm (Jj b c d)):=by kernel_rfl
def f103t3 N a b c (K:KT J):cT N 5 (Jj a b c) f103l2 K =
 aH.Z3 N a b c (λd e a b c=>K .nrm (Jk d e a b c)):=by kernel_rfl
def f103t5 N a b c d e (K:KT J):cT N 11 (Jk a b c d e) f103l3 K =
 aH.Z5 N a b c d e (λa b f c d e=>K .nrm (Jl a b f c d e)):=by kernel_rfl
def f103t8 N a b c d e f (K:KT J):cT N 39 (Jl a b c d e f) mm K =
 aH.Z8 N a b c d e f (λa b c g h d e f=>K .nrm (g8 a b c g h d e f)):=by kernel_rfl
def f103t12 N a b c d e f g h (K:KT J):cT N 279 (g8 a b c d e f g h) f103l5 K =
 aH.Z12 N a b c d e f g h (λa b c d e i f g h=>K .nrm (Jm a b c d e i f g h)):=by kernel_rfl
def f103t14 N b c a d e i f g h (K:KT J):cT N 663 (Jm b c a d e i f g h) mm K =
 aH.Z14 N b c a d e i f g h (λb c a d e f g h=>K .nrm (g8 b c a d e f g h)) (λa=>K (.exit 0) (qf a)):=by kernel_rfl
def f103t18 N a b c d e f g h (K:KT J):cT N 4503 (g8 a b c d e f g h) Bq K =
 aH.Z18 N a b c d e f g h (λa b c i d e f g h=>K .nrm (qd a b c i d e f g h)):=by kernel_rfl
def f103t20 N a b c i d e f g h (K:KT J):cT N 10647 (qd a b c i d e f g h) Bq K =
 aH.Z20 N a b c i d e f g h (λa b c i d e f g h=>K .nrm (qd a b c i d e f g h)) (λa b c d e f g h=>K (.exit 1) (g8 a b c d e f g h)):=by kernel_rfl
def f103t22 N a b c d e f g h i (K:KT J):cT N 22935 (qd a b c d e f g h i) Bq K =
 aH.Z22 N a b c d e f g h i (λa b c d e f g h i=>K .nrm (qd a b c d e f g h i)):=by kernel_rfl
def f103t24 N a b c i d e f g h (K:KT J):cT N 47511 (qd a b c i d e f g h) wk K =
 aH.Z24 N a b c i d e f g h (λa b c j d e f g h=>K .nrm (mo a b c j d e f g h)):=by kernel_rfl
def f103t27 N a b c d e f g h i (K:KT J):cT N 162199 (mo a b c d e f g h i) mq K =
 aH.Z27 N a b c d e f g h i (λa b c d j e f g h i=>K .nrm (iJ a b c d j e f g h i)):=by kernel_rfl
def f103t31 N a b c d j e f g h i (K:KT J):cT N 1145239 (iJ a b c d j e f g h i) mq K =
 aH.Z31 N a b c d j e f g h i (λa b c d j e f g h i=>K .nrm (iJ a b c d j e f g h i)) (λa b c d e f g h i=>K (.exit 2) (mo a b c d e f g h i)):=by kernel_rfl
def f103t35 N a b c d e f g h i j (K:KT J):cT N 9009559 (iJ a b c d e f g h i j) f103l9 K =
 aH.Z35 N a b c d e f g h i j (λa b c d e l f g h i j=>K .nrm (Jn a b c d e l f g h i j)):=by kernel_rfl
def f103t37 N a b c d e f g h i j l (K:KT J):cT N 21592471 (Jn a b c d e f g h i j l) qe K =
 aH.Z37 N a b c d e f g h i j l (λa b c d e f g h m o i j l=>K .nrm (jL a b c d e f g h m o i j l)):=by kernel_rfl
def f103t41 N a b c d e f g h i j l m o (K:KT J):cT N 147421591 (jL a b c d e f g h i j l m o) f103l11 K =
 aH.Z41 N a b c d e f g h i j l m o (λa b c d e f g h i j p l m o=>K .nrm (Jo a b c d e f g h i j p l m o)):=by kernel_rfl
def f103t43 N a b c d e l f g m o p h i j (K:KT J):cT N 348748183 (Jo a b c d e l f g m o p h i j) qe K =
 aH.Z43 N a b c d e l f g m o p h i j (λa b c d e l f g m o h i j=>K .nrm (jL a b c d e l f g m o h i j)) (λa b c d e f g h i j=>K (.exit 4) (iJ a b c d e f g h i j)):=by kernel_rfl
def f103t47 N a b c d e f g h i j l m o (K:KT J):cT N 2362014103 (jL a b c d e f g h i j l m o) f103l12 K =
 aH.Z47 N a b c d e f g h i j l m o (λa b c d e f p g h i j l m o=>K .nrm (Jp a b c d e f p g h i j l m o)):=by kernel_rfl
def f103t49 N a b c d e f g h i j l m o p (K:KT J):cT N 5583239575 (Jp a b c d e f g h i j l m o p) Jq K =
 aH.Z49 N a b c d e f g h i j l m o p (λa b c d e f g q r h i j l m o p=>K .nrm (wl a b c d e f g q r h i j l m o p)):=by kernel_rfl
def f103t51 N a b c d e f p q r g h i j l m o (K:KT J):cT N 12025690519 (wl a b c d e f p q r g h i j l m o) Jq K =
 aH.Z51 N a b c d e f p q r g h i j l m o (λa b c d e f p q r g h i j l m o=>K .nrm (wl a b c d e f p q r g h i j l m o)) (λa b c d e f g h i j l m o=>K (.exit 5) (jL a b c d e f g h i j l m o)):=by kernel_rfl
def f103t52 N a b c d e f p q r g h i j l m o (K:KT J):cT N 16320657815 (wl a b c d e f p q r g h i j l m o) qe K =
 aH.Z52 N a b c d e f p q r g h i j l m o (λa b c d e f g h i j l m o=>K .nrm (jL a b c d e f g h i j l m o)) (λs=>K .ret (fm s)):=by kernel_rfl
def f103t50 N a b c d e f p q r g h i j l m o (K:KT J):=vQ (λk=>aH.Z51 N a b c d e f p q r g h i j l m o k (λa b c d e f g h i j l m o=>K (.exit 5) (jL a b c d e f g h i j l m o))) (f103t51 N a b c d e f p q r g h i j l m o _) (DR λa b c d e f p q r g h i j l m o=>f103t52 N a b c d e f p q r g h i j l m o K)
def f103t48 N a b c d e f g h i j l m o p (K:KT J):=vQ (λk=>aH.Z49 N a b c d e f g h i j l m o p k) (f103t49 N a b c d e f g h i j l m o p _) (DR λa b c d e f g q r h i j l m o p=>f103t50 N a b c d e f g q r h i j l m o p K)
def f103t46 N a b c d e f g h i j l m o (K:KT J):=vQ (λk=>aH.Z47 N a b c d e f g h i j l m o k) (f103t47 N a b c d e f g h i j l m o _) (uA λa b c d e f p g h i j l m o=>f103t48 N a b c d e f p g h i j l m o K)
def f103t45 N a b c d e f g h i j l m o (K:KT J):=vB 5 qe K (aH.Z45 N a b c d e f g h i j l m o (λa b c d e f g h i j l m o=>K .nrm (jL a b c d e f g h i j l m o)) (λp=>K .ret (fm p))) (f103t46 N a b c d e f g h i j l m o _) (by kernel_rfl)
def f103t53 N a b c d e f g h i j l m o (K:KT J):cT N 1019836823 (jL a b c d e f g h i j l m o) qe K =
 aH.Z53 N a b c d e f g h i j l m o (λa b c d e f g h i j l m o=>K .nrm (jL a b c d e f g h i j l m o)):=by kernel_rfl
def f103t44 N a b c d e f g h i j l m o (K:KT J):=vQ (λk=>aH.Z45 N a b c d e f g h i j l m o k (λp=>K .ret (fm p))) (f103t45 N a b c d e f g h i j l m o _) (lN λa b c d e f g h i j l m o=>f103t53 N a b c d e f g h i j l m o K)
def f103t42 N a b c d e l f g m o p h i j (K:KT J):=vQ (λk=>aH.Z43 N a b c d e l f g m o p h i j k (λa b c d e f g h i j=>K (.exit 4) (iJ a b c d e f g h i j))) (f103t43 N a b c d e l f g m o p h i j _) (lN λa b c d e l f g m o h i j=>f103t44 N a b c d e l f g m o h i j K)
def f103t40 N a b c d e f g h i j l m o (K:KT J):=vQ (λk=>aH.Z41 N a b c d e f g h i j l m o k) (f103t41 N a b c d e f g h i j l m o _) (uA λa b c d e f g h i j p l m o=>f103t42 N a b c d e f g h i j p l m o K)
def f103t39L N (K:KT J):=rM K (aH.Z39L N (λa b c d e f g h i j=>K (.exit 4) (iJ a b c d e f g h i j)) (λl=>K .ret (fm l))) (λa b c d e m f g o p h i j k=>aH.Z40 N a b c d e m f g o p h i j k (λa b c d e f g h i j=>K (.exit 4) (iJ a b c d e f g h i j)) (λl=>K .ret (fm l))) (λF a b c d e m f g o p h i j=>f103t40 N a b c d e m f g o p h i j _) (by kernel_rfl)
def f103t39 N a b c d e f g h i j l m o (K:KT J):=vL (jL a b c d e f g h i j l m o) (f103t39L N (jK mq K) N a b c d e f g h i j l m o) (by kernel_rfl)
def f103t38 N a b c d e l f g m o h i j (K:KT J):=vB 4 mq K (aH.Z38 N a b c d e l f g m o h i j (λa b c d e f g h i j=>K .nrm (iJ a b c d e f g h i j)) (λp=>K .ret (fm p))) (f103t39 N a b c d e l f g m o h i j _) (by kernel_rfl)
def f103t36 N a b c d e f g h i j l (K:KT J):=vQ (λk=>aH.Z37 N a b c d e f g h i j l k) (f103t37 N a b c d e f g h i j l _) (lN λa b c d e f g h m o i j l=>f103t38 N a b c d e f g h m o i j l K)
def f103t34 N a b c d e f g h i j (K:KT J):=vQ (λk=>aH.Z35 N a b c d e f g h i j k) (f103t35 N a b c d e f g h i j _) (fE λa b c d e l f g h i j=>f103t36 N a b c d e l f g h i j K)
def f103t33 N a b c d e f g h i j (K:KT J):=vB 3 mq K (aH.Z33 N a b c d e f g h i j (λa b c d e f g h i j=>K .nrm (iJ a b c d e f g h i j)) (λl=>K .ret (fm l))) (f103t34 N a b c d e f g h i j _) (by kernel_rfl)
def f103t54 N a b c d e f g h i j (K:KT J):cT N 3766679 (iJ a b c d e f g h i j) mq K =
 aH.Z54 N a b c d e f g h i j (λa b c d e f g h i j=>K .nrm (iJ a b c d e f g h i j)):=by kernel_rfl
def f103t32 N a b c d e f g h i j (K:KT J):=vQ (λk=>aH.Z33 N a b c d e f g h i j k (λl=>K .ret (fm l))) (f103t33 N a b c d e f g h i j _) (cJ λa b c d e f g h i j=>f103t54 N a b c d e f g h i j K)
def f103t30 N a b c d j e f g h i (K:KT J):=vQ (λk=>aH.Z31 N a b c d j e f g h i k (λa b c d e f g h i=>K (.exit 2) (mo a b c d e f g h i))) (f103t31 N a b c d j e f g h i _) (cJ λa b c d j e f g h i=>f103t32 N a b c d j e f g h i K)
def f103t29L N (K:KT J):=kP K (aH.Z29L N (λa b c d e f g h i=>K (.exit 2) (mo a b c d e f g h i)) (λj=>K .ret (fm j))) (λa b c d l e f g h i k=>aH.Z30 N a b c d l e f g h i k (λa b c d e f g h i=>K (.exit 2) (mo a b c d e f g h i)) (λj=>K .ret (fm j))) (λF a b c d l e f g h i=>f103t30 N a b c d l e f g h i _) (by kernel_rfl)
def f103t29 N a b c d e f g h i j (K:KT J):=vL (iJ a b c d e f g h i j) (f103t29L N (jK wk K) N a b c d e f g h i j) (by kernel_rfl)
def f103t28 N a b c d j e f g h i (K:KT J):=vB 2 wk K (aH.Z28 N a b c d j e f g h i (λa b c d e f g h i=>K .nrm (mo a b c d e f g h i)) (λl=>K .ret (fm l))) (f103t29 N a b c d j e f g h i _) (by kernel_rfl)
def f103t26 N a b c d e f g h i (K:KT J):=vQ (λk=>aH.Z27 N a b c d e f g h i k) (f103t27 N a b c d e f g h i _) (cJ λa b c d j e f g h i=>f103t28 N a b c d j e f g h i K)
def f103t56 N a b c d e f g h i (K:KT J):cT N 194967 (mo a b c d e f g h i) wm K =
 aH.Z56 N a b c d e f g h i (λa b c d j e f g h i=>K .nrm (nZ a b c d j e f g h i)):=by kernel_rfl
def f103t59 N a b c d e f g h i j (K:KT J):cT N 653719 (nZ a b c d e f g h i j) Jr K =
 aH.Z59 N a b c d e f g h i j (λa b c d e f g l m h i j=>K .nrm (wn a b c d e f g l m h i j)):=by kernel_rfl
def f103t62 N a b c d e f g l m h i j (K:KT J):cT N 2488727 (wn a b c d e f g l m h i j) Jr K =
 aH.Z62 N a b c d e f g l m h i j (λa b c d e f g l m h i j=>K .nrm (wn a b c d e f g l m h i j)) (λa b c d e f g h i j=>K (.exit 6) (nZ a b c d e f g h i j)):=by kernel_rfl
def f103t61L N (K:KT J):=rL K (aH.Z61L N (λa b c d e f g h i j=>K (.exit 6) (nZ a b c d e f g h i j))) (λa b c d e f g l m h i j k=>aH.Z62 N a b c d e f g l m h i j k (λa b c d e f g h i j=>K (.exit 6) (nZ a b c d e f g h i j))) (λF a b c d e f g l m h i j=>f103t62 N a b c d e f g l m h i j _) (by kernel_rfl)
def f103t61 N a b c d e f g h i j l m (K:KT J):=vL (wn a b c d e f g h i j l m) (f103t61L N (jK wm K) N a b c d e f g h i j l m) (by kernel_rfl)
def f103t60 N a b c d e f g l m h i j (K:KT J):=vB 6 wm K (aH.Z60 N a b c d e f g l m h i j (λa b c d e f g h i j=>K .nrm (nZ a b c d e f g h i j))) (f103t61 N a b c d e f g l m h i j _) (by kernel_rfl)
def f103t58 N a b c d e f g h i j (K:KT J):=vQ (λk=>aH.Z59 N a b c d e f g h i j k) (f103t59 N a b c d e f g h i j _) (j0 λa b c d e f g l m h i j=>f103t60 N a b c d e f g l m h i j K)
def f103t64 N a b c d e f g h i j (K:KT J):cT N 784791 (nZ a b c d e f g h i j) f103l16 K =
 aH.Z64 N a b c d e f g h i j (λa b c d e l f g h i j=>K .nrm (Js a b c d e l f g h i j)):=by kernel_rfl
def f103t67 N a b c d e f g h i j l (K:KT J):cT N 2619799 (Js a b c d e f g h i j l) Jt K =
 aH.Z67 N a b c d e f g h i j l (λa b c d e f g h m o i j l=>K .nrm (wo a b c d e f g h m o i j l)):=by kernel_rfl
def f103t70 N a b c d l e f g m o h i j (K:KT J):cT N 9959831 (wo a b c d l e f g m o h i j) Jt K =
 aH.Z70 N a b c d l e f g m o h i j (λa b c d l e f g m o h i j=>K .nrm (wo a b c d l e f g m o h i j)) (λa b c d e f g h i j=>K (.exit 8) (sY a b c d e f g h i j)):=by kernel_rfl
def f103t69L N (K:KT J):=rM K (aH.Z69L N (λa b c d e f g h i j=>K (.exit 8) (sY a b c d e f g h i j))) (λa b c d l e f g m o h i j k=>aH.Z70 N a b c d l e f g m o h i j k (λa b c d e f g h i j=>K (.exit 8) (sY a b c d e f g h i j))) (λF a b c d l e f g m o h i j=>f103t70 N a b c d l e f g m o h i j _) (by kernel_rfl)
def f103t69 N a b c d e f g h i j l m o (K:KT J):=vL (wo a b c d e f g h i j l m o) (f103t69L N (jK Br K) N a b c d e f g h i j l m o) (by kernel_rfl)
def f103t68 N a b c d l e f g m o h i j (K:KT J):=vB 8 Br K (aH.Z68 N a b c d l e f g m o h i j (λa b c d e f g h i j=>K .nrm (sY a b c d e f g h i j))) (f103t69 N a b c d l e f g m o h i j _) (by kernel_rfl)
def f103t66 N a b c d e f g h i j l (K:KT J):=vQ (λk=>aH.Z67 N a b c d e f g h i j l k) (f103t67 N a b c d e f g h i j l _) (lN λa b c d e f g h m o i j l=>f103t68 N a b c d e f g h m o i j l K)
def f103t72 N a b c j d e f g h i (K:KT J):cT N 3144087 (sY a b c j d e f g h i) Ju K =
 aH.Z72 N a b c j d e f g h i (λa b c l d e f m o g h i=>K .nrm (wq a b c l d e f m o g h i)):=by kernel_rfl
def f103t75 N a b c i j d e l m f g h (K:KT J):cT N 10484119 (wq a b c i j d e l m f g h) Ju K =
 aH.Z75 N a b c i j d e l m f g h (λa b c i j d e l m f g h=>K .nrm (wq a b c i j d e l m f g h)) (λa b c d e f g h=>K (.exit 10) (g8 a b c d e f g h)):=by kernel_rfl
def f103t74L N (K:KT J):=rL K (aH.Z74L N (λa b c d e f g h=>K (.exit 10) (g8 a b c d e f g h))) (λa b c i j d e l m f g h k=>aH.Z75 N a b c i j d e l m f g h k (λa b c d e f g h=>K (.exit 10) (g8 a b c d e f g h))) (λF a b c i j d e l m f g h=>f103t75 N a b c i j d e l m f g h _) (by kernel_rfl)
def f103t74 N a b c d e f g h i j l m (K:KT J):=vL (wq a b c d e f g h i j l m) (f103t74L N (jK mm K) N a b c d e f g h i j l m) (by kernel_rfl)
def f103t73 N a b c i j d e l m f g h (K:KT J):=vB 10 mm K (aH.Z73 N a b c i j d e l m f g h (λa b c d e f g h=>K .nrm (g8 a b c d e f g h))) (f103t74 N a b c i j d e l m f g h _) (by kernel_rfl)
def f103t71 N a b c j d e f g h i (K:KT J):=vQ (λk=>aH.Z72 N a b c j d e f g h i k) (f103t72 N a b c j d e f g h i _) (j0 λa b c l d e f m o g h i=>f103t73 N a b c l d e f m o g h i K)
def f103t65 N a b c d l e f g h i j (K:KT J):=vQ (λk=>aH.Z66 N a b c d l e f g h i j k) (f103t66 N a b c d l e f g h i j _) (cJ λa b c d e f g h i j=>f103t71 N a b c d e f g h i j K)
def f103t63 N a b c d e f g h i j (K:KT J):=vQ (λk=>aH.Z64 N a b c d e f g h i j k) (f103t64 N a b c d e f g h i j _) (fE λa b c d e l f g h i j=>f103t65 N a b c d e l f g h i j K)
def f103t57 N a b c d e f g h i j (K:KT J):=vQ (λk=>aH.Z58 N a b c d e f g h i j k) (f103t58 N a b c d e f g h i j _) (cJ λa b c d e f g h i j=>f103t63 N a b c d e f g h i j K)
def f103t55 N a b c d e f g h i (K:KT J):=vQ (λk=>aH.Z56 N a b c d e f g h i k) (f103t56 N a b c d e f g h i _) (cJ λa b c d j e f g h i=>f103t57 N a b c d j e f g h i K)
def f103t25 N a b c d e f g h i (K:KT J):=vQ (λk=>aH.Z26 N a b c d e f g h i k (λj=>K .ret (fm j))) (f103t26 N a b c d e f g h i _) (c6 λa b c d e f g h i=>f103t55 N a b c d e f g h i K)
def f103t23 N a b c i d e f g h (K:KT J):=vQ (λk=>aH.Z24 N a b c i d e f g h k) (f103t24 N a b c i d e f g h _) (c6 λa b c j d e f g h=>f103t25 N a b c j d e f g h K)
def f103t21 N a b c d e f g h i (K:KT J):=vQ (λk=>aH.Z22 N a b c d e f g h i k) (f103t22 N a b c d e f g h i _) (c6 λa b c d e f g h i=>f103t23 N a b c d e f g h i K)
def f103t19 N a b c i d e f g h (K:KT J):=vQ (λk=>aH.Z20 N a b c i d e f g h k (λa b c d e f g h=>K (.exit 1) (g8 a b c d e f g h))) (f103t20 N a b c i d e f g h _) (c6 λa b c i d e f g h=>f103t21 N a b c i d e f g h K)
def f103t17 N a b c d e f g h (K:KT J):=vQ (λk=>aH.Z18 N a b c d e f g h k) (f103t18 N a b c d e f g h _) (c6 λa b c i d e f g h=>f103t19 N a b c i d e f g h K)
def f103t16 N a b c d e f g h (K:KT J):=vB 1 mm K (aH.Z16 N a b c d e f g h (λa b c d e f g h=>K .nrm (g8 a b c d e f g h)) (λi=>K .ret (fm i))) (f103t17 N a b c d e f g h _) (by kernel_rfl)
def f103t76 N a b c d e f g h (K:KT J):cT N 1943 (g8 a b c d e f g h) mm K =
 aH.Z76 N a b c d e f g h (λa b c d e f g h=>K .nrm (g8 a b c d e f g h)):=by kernel_rfl
def f103t15 N a b c d e f g h (K:KT J):=vQ (λk=>aH.Z16 N a b c d e f g h k (λi=>K .ret (fm i))) (f103t16 N a b c d e f g h _) (eX λa b c d e f g h=>f103t76 N a b c d e f g h K)
def f103t13 N b c a d e i f g h (K:KT J):=vQ (λk=>aH.Z14 N b c a d e i f g h k (λa=>K (.exit 0) (qf a))) (f103t14 N b c a d e i f g h _) (eX λb c a d e f g h=>f103t15 N b c a d e f g h K)
def f103t11 N a b c d e f g h (K:KT J):=vQ (λk=>aH.Z12 N a b c d e f g h k) (f103t12 N a b c d e f g h _) (c6 λa b c d e i f g h=>f103t13 N a b c d e i f g h K)
def f103t10L N (K:KT J):=lO K (aH.Z10L N (λa=>K (.exit 0) (qf a)) (λb=>K .ret (fm b))) (λc d a e f g h i k=>aH.Z11 N c d a e f g h i k (λa=>K (.exit 0) (qf a)) (λb=>K .ret (fm b))) (λF c d a e f g h i=>f103t11 N c d a e f g h i _) (by kernel_rfl)
def f103t10 N a b c d e f g h (K:KT J):=vL (g8 a b c d e f g h) (f103t10L N (jK Bs K) N a b c d e f g h) (by kernel_rfl)
def f103t9 N b c a d e f g h (K:KT J):=vB 0 Bs K (aH.Z9 N b c a d e f g h (λa=>K .nrm (qf a)) (λi=>K .ret (fm i))) (f103t10 N b c a d e f g h _) (by kernel_rfl)
def f103t7 N a b c d e f (K:KT J):=vQ (λk=>aH.Z8 N a b c d e f k) (f103t8 N a b c d e f _) (eX λa b c g h d e f=>f103t9 N a b c g h d e f K)
def f103t77 N a (K:KT J):cT N 31 (qf a) f103lE K =
 aH.Z77 N a (λb=>K .ret (fm b)):=by kernel_rfl
def f103t6 N b c a d e f (K:KT J):=vQ (λk=>aH.Z7 N b c a d e f k (λg=>K .ret (fm g))) (f103t7 N b c a d e f _) (funext λa=>f103t77 N a K)
def f103t4 N a b c d e (K:KT J):=vQ (λk=>aH.Z5 N a b c d e k) (f103t5 N a b c d e _) (cC λa b f c d e=>f103t6 N a b f c d e K)
def f103t2 N a b c (K:KT J):=vQ (λk=>aH.Z3 N a b c k) (f103t3 N a b c _) (bO λd e a b c=>f103t4 N d e a b c K)
def f103t0 N a (K:KT J):=vQ (λk=>aH.Z1 N a k) (f103t1 N a _) (bZ λb c d=>f103t2 N b c d K)
def f103ok(h:aH.Spec):av Tryz.prog 103 Bp :=
 bu Tryz.func103 bq f103GOk (λN X K=>f103t0 N X.1 K) (by kernel_rfl) λX hb hp=>by obtain⟨a,_⟩:=X;obtain⟨N,h⟩:=h a hb.1 hp;exact⟨N,Eq.trans (by kernel_rfl) (h N (Nat.le_refl N))⟩
def e103ok:av Tryz.prog 103 Bp:=f103ok aH.ok
def Jv:aW:=⟨[⟨.pair (.int .i64) (.pair (.int .i64) (.sl 3 (.int .i64))),true,false⟩],[⟨.bool,false,false⟩]⟩
def n7:aK:=⟨Jv,none,λX=>((),((fP.g X.1),()))⟩
def Jw:Gm:=aD (aD bi 102 Bl) 103 Bp
def f63GOk:aw Tryz.prog Jw:=((aw.nil).add e102ok (by kernel_rfl)).add e103ok (by kernel_rfl)
def f63lE:ab:=⟨[],[],[],[],[]⟩
def f63s0(a:MT):St:=be Jv.ps (a,())
def f63s1(a:Bool):St:=af [(2,xB a)] [] []
def f63l1:ab:=⟨[2],[],[],[],[]⟩
def f63B:Nat->Option ab:=az [(1000000,f63l1)]
abbrev f63j{J:Type}(N n:Nat)(U:St)(l:ab)(K:KT J):Option J:=an Jw bm f63B N (a8 99 (bn Tryz.f63) n) .n U (ay (some l) K)
def f63t0 N a (K:KT J):f63j N 1 (f63s0 a) f63lE K =
 fP.Z0 N a (λb=>K .ret (f63s1 b)):=by kernel_rfl
def f63ok(h:fP.Spec):av Tryz.prog 63 n7 :=
 bu Tryz.func63 bq f63GOk (λN X K=>f63t0 N X.1 K) (by kernel_rfl) λX hb hp=>by obtain⟨a,_⟩:=X;obtain⟨N,h⟩:=h a hb.1;exact⟨N,Eq.trans (by kernel_rfl) (h N (Nat.le_refl N))⟩
def sZ:av Tryz.prog 63 n7:=f63ok fP.ok
def Jx:aW:=⟨[⟨.sl 3 (.int .i64),false,false⟩],[⟨.sl 3 (.int .i64),false,false⟩]⟩
def s0:aK:=⟨Jx,(some λX=>ed.P X.1),λX=>((),((ed.g X.1),()))⟩
def Jy:Gm:=bi
def f69GOk:aw Tryz.prog Jy:=aw.nil
def f69lE:ab:=⟨[],[],[],[],[]⟩
def f69s0(a:LI):St:=be Jx.ps (a,())
def f69s1(a:LI):St:=af [(2,xo 1000128)] [] [(1000128,(⟨3,.int .i64,a,true,false⟩:ac))]
def f69l1:ab:=⟨[2],[],[⟨⟨false,2,0⟩,30000000,3,.int .i64,true⟩],[],[(⟨false,2,0⟩,1000128)]⟩
def f69B:Nat->Option ab:=az [(1000000,f69l1)]
abbrev f69j{J:Type}(N n:Nat)(U:St)(l:ab)(K:KT J):Option J:=an Jy bm f69B N (a8 99 (bn Tryz.f69) n) .n U (ay (some l) K)
def f69t0 N a (K:KT J):f69j N 1 (f69s0 a) f69lE K =
 ed.Z0 N a (λb=>K .ret (f69s1 b)):=by kernel_rfl
def f69ok(h:ed.Spec):av Tryz.prog 69 s0 :=
 bu Tryz.func69 bq f69GOk (λN X K=>f69t0 N X.1 K) (by kernel_rfl) λX hb hp=>by obtain⟨a,_⟩:=X;obtain⟨N,h⟩:=h a hb.1 hp;exact⟨N,Eq.trans (by kernel_rfl) (h N (Nat.le_refl N))⟩
def Bt:av Tryz.prog 69 s0:=f69ok ed.ok
def Jz:aW:=⟨[⟨.pair (.int .i64) (.pair (.int .i64) (.sl 3 (.int .i64))),true,false⟩],[⟨.pair (.int .i64) (.pair (.int .i64) (.sl 3 (.int .i64))),true,false⟩]⟩
def Bu:aK:=⟨Jz,none,λX=>((),((jR.g X.1),()))⟩
def JA:Gm:=aD (aD bi 63 n7) 69 s0
def f31GOk:aw Tryz.prog JA:=((aw.nil).add sZ (by kernel_rfl)).add Bt (by kernel_rfl)
def f31lE:ab:=⟨[],[],[],[],[]⟩
def f31s0(a:MT):St:=be Jz.ps (a,())
def f31s1(a:LI)(b c:Int):St:=af [(2,xb 2)] [(2,(27,[yi b,yi c,.own 20000130]))] [(20000130,(⟨3,.int .i64,a,true,false⟩:ac))]
def f31l1:ab:=⟨[2],[2],[⟨⟨true,2,2⟩,30000000,3,.int .i64,true⟩],[],[(⟨true,2,2⟩,20000130)]⟩
def f31B:Nat->Option ab:=az [(1000000,f31l1)]
abbrev f31j{J:Type}(N n:Nat)(U:St)(l:ab)(K:KT J):Option J:=an JA bm f31B N (a8 99 (bn Tryz.f31) n) .n U (ay (some l) K)
def f31t0 N a (K:KT J):f31j N 1 (f31s0 a) f31lE K =
 jR.Z0 N a (λb c d=>K .ret (f31s1 b c d)):=by kernel_rfl
def f31ok(h:jR.Spec):av Tryz.prog 31 Bu :=
 bu Tryz.func31 bq f31GOk (λN X K=>f31t0 N X.1 K) (by kernel_rfl) λX hb hp=>by obtain⟨a,_⟩:=X;obtain⟨N,h⟩:=h a hb.1;exact⟨N,Eq.trans (by kernel_rfl) (h N (Nat.le_refl N))⟩
def e31ok:av Tryz.prog 31 Bu:=f31ok jR.ok
def f115rf:Rf:=none
def f115ps:List PT:=[⟨.sl 3 (.int .i64),false,true⟩,⟨.int .i64,false,false⟩,⟨.sl 3 (.int .i64),false,true⟩]
def f115rs:List PT:=[⟨.sl 3 (.int .i64),false,false⟩]
def Bv:ik:=⟨f115rf,f115ps,f115rs,(some λX=>jS.P X.2.1 X.2.2.1 X.2.2.2.1),λX=>((),((jS.g X.2.1 X.2.2.1 X.2.2.2.1),()))⟩
def f115ren:Go.Shelf.Ren:=⟨λ|21=>115|27=>155|28=>156|35=>181|39=>194|n=>n,λ|22=>22|3=>3|4=>4|0=>0|n=>n,λn=>n⟩
def f115lay:Lays2.n21 Tryz.prog f115ren:={ mixed:=(by kernel_rfl),f21:=Tryz.func115.trans (congrArg some (by kernel_rfl)),f27:=Tryz.func155.trans (congrArg some (by kernel_rfl)),f28:=Tryz.func156.trans (congrArg some (by kernel_rfl)),f35:=Tryz.func181.trans (congrArg some (by kernel_rfl)),f39:=Tryz.func194.trans (congrArg some (by kernel_rfl)),t0:=Tryz.underlying0,a0:=Tryz.isAgg0,z0:=Tryz.sizeOf0,v0:=Tryz.zeroValue0,t3:=Tryz.underlying3,a3:=Tryz.isAgg3,z3:=Tryz.sizeOf3,v3:=Tryz.zeroValue3,t4:=Tryz.underlying4,a4:=Tryz.isAgg4,z4:=Tryz.sizeOf4,v4:=Tryz.zeroValue4,t22:=Tryz.underlying22,a22:=Tryz.isAgg22,z22:=Tryz.sizeOf22,v22:=Tryz.zeroValue22,i3:=(by kernel_rfl) }
def f115ok(_:True):fA Tryz.prog 115 Bv:=Oh f115lay
def e115ok:fA Tryz.prog 115 Bv:=f115ok jS.ok
def JB:aW:=⟨[⟨.int .i64,false,false⟩],[⟨.sl 22 (.sl 3 (.int .i64)),false,false⟩]⟩
def Bw:aK:=⟨JB,(some λX=>bJ.P X.1),λX=>((),((bJ.g X.1),()))⟩
def JC:Gm:=addM (aD bi 69 s0) 115 Bv
def f80GOk:aw Tryz.prog JC:=((aw.nil).add Bt (by kernel_rfl)).addM e115ok (by kernel_rfl)
def f80lE:ab:=⟨[],[],[],[],[]⟩
def f80s0(a:Int):St:=be JB.ps (a,())
def JD(a:Int):St:=af [(0,xi a)] [] []
def f80l1:ab:=⟨[0],[],[],[],[]⟩
def JE(a:LL)(b:Int):St:=af [(0,xi b),(3,xo 1000192)] [] [(1000192,(⟨22,.sl 3 tI,a,true,false⟩:ac))]
def f80l2:ab:=⟨[0,3],[],[],[],[(⟨false,3,0⟩,1000192)]⟩
def ll(a:LL)(b c:Int):St:=af [(0,xi b),(3,xo 1000192),(4,xi c)] [] [(1000192,(⟨22,.sl 3 tI,a,true,false⟩:ac))]
def qg:ab:=⟨[0,3,4],[],[],[],[(⟨false,3,0⟩,1000192)]⟩
def JF(a:LL)(b d:Int):St:=af [(0,xi b),(3,xo 1000192),(4,xi d),(5,.c (.nil))] [] [(1000192,(⟨22,.sl 3 tI,a,true,false⟩:ac))]
def f80l4:ab:=⟨[0,3,4,5],[],[],[],[(⟨false,3,0⟩,1000192)]⟩
def JG(a:LL)(b d e f:Int):St:=af [(0,xi b),(4,xi d),(5,.c (.nil)),(15,xo 1000960),(16,xi e),(17,xi f)] [] [(1000960,(⟨22,.sl 3 tI,a,true,false⟩:ac))]
def f80l5:ab:=⟨[0,4,5,15,16,17],[],[],[],[(⟨false,15,0⟩,1000960)]⟩
def mr(a b:LL)(c d e f:Int):St:=af [(0,xi c),(4,xi d),(5,xo 1000320),(15,xo 1000960),(16,xi e),(17,xi f)] [] [(1000320,(⟨22,.sl 3 tI,a,true,false⟩:ac)),(1000960,(⟨22,.sl 3 tI,b,true,false⟩:ac))]
def qi:ab:=⟨[0,4,5,15,16,17],[],[],[],[(⟨false,5,0⟩,1000320),(⟨false,15,0⟩,1000960)]⟩
def JH(a b:LL)(c d e f:Int):St:=af [(0,xi c),(4,xi d),(5,xo 1000320),(15,xo 1000960),(16,xi e),(17,xi f)] [] [(1000320,(⟨22,.sl 3 tI,a,true,false⟩:ac)),(1000960,(⟨22,.sl 3 tI,b,true,false⟩:ac))]
def f80l11:ab:=⟨[0,4,5,15,16,17],[],[⟨⟨false,5,0⟩,30000000,22,.sl 3 (.int .i64),true⟩],[],[(⟨false,5,0⟩,1000320),(⟨false,15,0⟩,1000960)]⟩
def JI(a b:LL)(c d e f:Int)(g:Bool):St:=af [(0,xi c),(4,xi d),(5,xo 1000320),(15,xo 1000960),(16,xi e),(17,xi f),(18,xB g)] [] [(1000320,(⟨22,.sl 3 tI,a,true,false⟩:ac)),(1000960,(⟨22,.sl 3 tI,b,true,false⟩:ac))]
def f80l12:ab:=⟨[0,4,5,15,16,17,18],[],[],[],[(⟨false,5,0⟩,1000320),(⟨false,15,0⟩,1000960)]⟩
def JJ(a b:LL)(d e:Int)(f:LI)(g h:Int):St:=af [(0,xi d),(4,xi e),(5,xo 1000320),(7,.c (.sn 3 tI f (some 1000960))),(15,xo 1000960),(16,xi g),(17,xi h)] [] [(1000320,(⟨22,.sl 3 tI,a,true,false⟩:ac)),(1000960,(⟨22,.sl 3 tI,b,true,false⟩:ac))]
def f80l13:ab:=⟨[0,4,5,7,15,16,17],[],[],[],[(⟨false,5,0⟩,1000320),(⟨false,15,0⟩,1000960)]⟩
def wr(a b:LL)(d e:Int)(f:LI)(g h i:Int):St:=af [(0,xi d),(4,xi e),(5,xo 1000320),(7,.c (.sn 3 tI f (some 1000960))),(8,xi g),(15,xo 1000960),(16,xi h),(17,xi i)] [] [(1000320,(⟨22,.sl 3 tI,a,true,false⟩:ac)),(1000960,(⟨22,.sl 3 tI,b,true,false⟩:ac))]
def JK:ab:=⟨[0,4,5,7,8,15,16,17],[],[],[],[(⟨false,5,0⟩,1000320),(⟨false,15,0⟩,1000960)]⟩
def qj(a:LL)(b c:Int):St:=af [(0,xi b),(4,xi c),(5,xo 1000320)] [] [(1000320,(⟨22,.sl 3 tI,a,true,false⟩:ac))]
def Bx:ab:=⟨[0,4,5],[],[],[],[(⟨false,5,0⟩,1000320)]⟩
def qk(a:LL):St:=af [(3,xo 1000192)] [] [(1000192,(⟨22,.sl 3 tI,a,true,false⟩:ac))]
def By:ab:=⟨[3],[],[],[],[(⟨false,3,0⟩,1000192)]⟩
def f80s17(a:LL):St:=af [(2,xo 1000128)] [] [(1000128,(⟨22,.sl 3 tI,a,true,false⟩:ac))]
def f80l17:ab:=⟨[2],[],[],[],[(⟨false,2,0⟩,1000128)]⟩
def f80B:Nat->Option ab:=az [(4,qi),(3,qi),(2,Bx),(1,qg),(0,By),(1000000,f80l17)]
abbrev gK{J:Type}(N n:Nat)(U:St)(l:ab)(K:KT J):Option J:=an JC bm f80B N (a8 99 (bn Tryz.f80) n) .n U (ay (some l) K)
def f80t1 N a (K:KT J):gK N 2 (f80s0 a) f80l1 K =
 bJ.Z1 N a (λa=>K .nrm (JD a)):=by kernel_rfl
def f80t3 N a (K:KT J):gK N 5 (JD a) f80l2 K =
 bJ.Z3 N a (λb a=>K .nrm (JE b a)):=by kernel_rfl
def f80t6 N a b (K:KT J):gK N 19 (JE a b) qg K =
 bJ.Z6 N a b (λa b c=>K .nrm (ll a b c)):=by kernel_rfl
def f80t10 N a b c (K:KT J):gK N 139 (ll a b c) qg K =
 bJ.Z10 N a b c (λa b c=>K .nrm (ll a b c)) (λa=>K (.exit 0) (qk a)):=by kernel_rfl
def f80t14 N a b c (K:KT J):gK N 1099 (ll a b c) f80l4 K =
 bJ.Z14 N a b c (λa b c=>K .nrm (JF a b c)):=by kernel_rfl
def f80t17 N c a b (K:KT J):gK N 4683 (JF c a b) f80l5 K =
 bJ.Z17 N c a b (λd a b e f=>K .nrm (JG d a b e f)):=by kernel_rfl
def f80t21 N a b c d e f (K:KT J):gK N 35403 (JH a b c d e f) f80l12 K =
 bJ.Z21 N a b c d e f (λa b c d e f g=>K .nrm (JI a b c d e f g)):=by kernel_rfl
def f80t23 N a d b c e f g (K:KT J):gK N 84555 (JI a d b c e f g) qi K =
 bJ.Z23 N a d b c e f g (λa d b c e f=>K .nrm (mr a d b c e f)) (λa b c=>K (.exit 2) (qj a b c)):=by kernel_rfl
def f80t27 N a b c d e f (K:KT J):gK N 576075 (mr a b c d e f) f80l13 K =
 bJ.Z27 N a b c d e f (λa b c d g e f=>K .nrm (JJ a b c d g e f)):=by kernel_rfl
def f80t29 N a b c d e f g (K:KT J):gK N 1362507 (JJ a b c d e f g) JK K =
 bJ.Z29 N a b c d e f g (λa b c d e h f g=>K .nrm (wr a b c d e h f g)):=by kernel_rfl
def f80t32 N a b c d g h e f (K:KT J):gK N 5032523 (wr a b c d g h e f) JK K =
 bJ.Z32 N a b c d g h e f (λa b c d g h e f=>K .nrm (wr a b c d g h e f)) (λa b c d e f=>K (.exit 4) (mr a b c d e f)):=by kernel_rfl
def f80t31L N (K:KT J):=lO K (bJ.Z31L N (λa b c d e f=>K (.exit 4) (mr a b c d e f))) (λa b c d g h e f k=>bJ.Z32 N a b c d g h e f k (λa b c d e f=>K (.exit 4) (mr a b c d e f))) (λF a b c d g h e f=>f80t32 N a b c d g h e f _) (by kernel_rfl)
def f80t31 N a b c d e f g h (K:KT J):=vL (wr a b c d e f g h) (f80t31L N (jK qi K) N a b c d e f g h) (by kernel_rfl)
def f80t30 N a b c d g h e f (K:KT J):=vB 4 qi K (bJ.Z30 N a b c d g h e f (λa b c d e f=>K .nrm (mr a b c d e f))) (f80t31 N a b c d g h e f _) (by kernel_rfl)
def f80t28 N a b c d e f g (K:KT J):=vQ (λk=>bJ.Z29 N a b c d e f g k) (f80t29 N a b c d e f g _) (eX λa b c d e h f g=>f80t30 N a b c d e h f g K)
def f80t26 N a b c d e f (K:KT J):=vQ (λk=>bJ.Z27 N a b c d e f k) (f80t27 N a b c d e f _) (eC λa b c d g e f=>f80t28 N a b c d g e f K)
def f80t25 N a b c d e f (K:KT J):=vB 3 qi K (bJ.Z25 N a b c d e f (λa b c d e f=>K .nrm (mr a b c d e f))) (f80t26 N a b c d e f _) (by kernel_rfl)
def f80t33 N a b c d e f (K:KT J):gK N 248395 (mr a b c d e f) f80l11 K =
 bJ.Z33 N a b c d e f (λa b c d e f=>K .nrm (JH a b c d e f)):=by kernel_rfl
def f80t24 N a b c d e f (K:KT J):=vQ (λk=>bJ.Z25 N a b c d e f k) (f80t25 N a b c d e f _) (cC λa b c d e f=>f80t33 N a b c d e f K)
def f80t22 N a d b c e f g (K:KT J):=vQ (λk=>bJ.Z23 N a d b c e f g k (λa b c=>K (.exit 2) (qj a b c))) (f80t23 N a d b c e f g _) (cC λa d b c e f=>f80t24 N a d b c e f K)
def f80t20 N a b c d e f (K:KT J):=vQ (λk=>bJ.Z21 N a b c d e f k) (f80t21 N a b c d e f _) (eC λa b c d e f g=>f80t22 N a b c d e f g K)
def f80t19L N (K:KT J):=iV K (bJ.Z19L N (λa b c=>K (.exit 2) (qj a b c))) (λa d b c e f k=>bJ.Z20 N a d b c e f k (λa b c=>K (.exit 2) (qj a b c))) (λF a d b c e f=>f80t20 N a d b c e f _) (by kernel_rfl)
def f80t19 N a b c d e (K:KT J):=vL (JG a b c d e) (f80t19L N (jK Bx K) N ([]:List (LI)) a b c d e) (by kernel_rfl)
def f80t18 N c a b d e (K:KT J):=vB 2 Bx K (bJ.Z18 N c a b d e (λf a b=>K .nrm (qj f a b))) (f80t19 N c a b d e _) (by kernel_rfl)
def f80t16 N c a b (K:KT J):=vQ (λk=>bJ.Z17 N c a b k) (f80t17 N c a b _) (bO λd a b e f=>f80t18 N d a b e f K)
def f80t34 N c a b (K:KT J):gK N 3659 (qj c a b) qg K =
 bJ.Z34 N c a b (λd a b=>K .nrm (ll d a b)):=by kernel_rfl
def f80t15 N c a b (K:KT J):=vQ (λk=>bJ.Z16 N c a b k) (f80t16 N c a b _) (bZ λd a b=>f80t34 N d a b K)
def f80t13 N a b c (K:KT J):=vQ (λk=>bJ.Z14 N a b c k) (f80t14 N a b c _) (bZ λa b c=>f80t15 N a b c K)
def f80t12 N a b c (K:KT J):=vB 1 qg K (bJ.Z12 N a b c (λa b c=>K .nrm (ll a b c))) (f80t13 N a b c _) (by kernel_rfl)
def f80t35 N a b c (K:KT J):gK N 459 (ll a b c) qg K =
 bJ.Z35 N a b c (λa b c=>K .nrm (ll a b c)):=by kernel_rfl
def f80t11 N a b c (K:KT J):=vQ (λk=>bJ.Z12 N a b c k) (f80t12 N a b c _) (bZ λa b c=>f80t35 N a b c K)
def f80t9 N a b c (K:KT J):=vQ (λk=>bJ.Z10 N a b c k (λa=>K (.exit 0) (qk a))) (f80t10 N a b c _) (bZ λa b c=>f80t11 N a b c K)
def f80t8L N (K:KT J):=gS K (bJ.Z8L N (λa=>K (.exit 0) (qk a))) (λa b c k=>bJ.Z9 N a b c k (λa=>K (.exit 0) (qk a))) (λF a b c=>f80t9 N a b c _) (by kernel_rfl)
def f80t8 N a b c (K:KT J):=vL (ll a b c) (f80t8L N (jK By K) N a b c) (by kernel_rfl)
def f80t7 N a b c (K:KT J):=vB 0 By K (bJ.Z7 N a b c (λa=>K .nrm (qk a))) (f80t8 N a b c _) (by kernel_rfl)
def f80t5 N a b (K:KT J):=vQ (λk=>bJ.Z6 N a b k) (f80t6 N a b _) (bZ λa b c=>f80t7 N a b c K)
def f80t36 N a (K:KT J):gK N 15 (qk a) f80lE K =
 bJ.Z36 N a (λb=>K .ret (f80s17 b)):=by kernel_rfl
def f80t4 N a b (K:KT J):=vQ (λk=>bJ.Z5 N a b k) (f80t5 N a b _) (funext λa=>f80t36 N a K)
def f80t2 N a (K:KT J):=vQ (λk=>bJ.Z3 N a k) (f80t3 N a _) (cX λb a=>f80t4 N b a K)
def f80t0 N a (K:KT J):=vQ (λk=>bJ.Z1 N a k) (f80t1 N a _) (funext λa=>f80t2 N a K)
def f80ok(h:bJ.Spec):av Tryz.prog 80 Bw :=
 bu Tryz.func80 bq f80GOk (λN X K=>f80t0 N X.1 K) (by kernel_rfl) λX hb hp=>by obtain⟨a,_⟩:=X;obtain⟨N,h⟩:=h a hp;exact⟨N,Eq.trans (by kernel_rfl) (h N (Nat.le_refl N))⟩
def e80ok:av Tryz.prog 80 Bw:=f80ok bJ.ok
def JL:aW:=⟨[⟨.sl 3 (.int .i64),false,false⟩,⟨.int .i64,false,false⟩],[⟨.int .i64,false,false⟩]⟩
def Bz:aK:=⟨JL,none,λX=>((),((fu.g X.1 X.2.1),()))⟩
def JM:Gm:=bi
def f182GOk:aw Tryz.prog JM:=aw.nil
def f182lE:ab:=⟨[],[],[],[],[]⟩
def f182s0(a:LI)(b:Int):St:=be JL.ps (a,(b,()))
def JN(a:LI)(b:Int):St:=af [(0,.c (.sn 3 tI a none)),(1,xi b)] [] []
def f182l1:ab:=⟨[0,1],[],[],[],[]⟩
def wu(a:LI)(b d e:Int):St:=af [(0,.c (.sn 3 tI a none)),(1,xi b),(7,xi d),(8,xi e)] [] []
def JO:ab:=⟨[0,1,7,8],[],[],[],[]⟩
def s4 :St:=af [] [] []
def BA:ab:=⟨[],[],[],[],[]⟩
def qn(a:Int):St:=af [(4,xi a)] [] []
def f182l4:ab:=⟨[4],[],[],[],[]⟩
def f182B:Nat->Option ab:=az [(0,BA),(1000000,f182l4)]
abbrev wv{J:Type}(N n:Nat)(U:St)(l:ab)(K:KT J):Option J:=an JM bm f182B N (a8 99 (bn Tryz.f182) n) .n U (ay (some l) K)
def f182t1 N a b (K:KT J):wv N 2 (f182s0 a b) f182l1 K =
 fu.Z1 N a b (λa b=>K .nrm (JN a b)):=by kernel_rfl
def f182t4 N a b (K:KT J):wv N 9 (JN a b) JO K =
 fu.Z4 N a b (λa b c d=>K .nrm (wu a b c d)):=by kernel_rfl
def f182t7 N a b c d (K:KT J):wv N 37 (wu a b c d) JO K =
 fu.Z7 N a b c d (λa b c d=>K .nrm (wu a b c d)) (K (.exit 0) s4) (λe=>K .ret (qn e)):=by kernel_rfl
def f182t6L N (K:KT J):=nA K (fu.Z6L N (K (.exit 0) s4) (λa=>K .ret (qn a))) (λb c d e k=>fu.Z7 N b c d e k (K (.exit 0) s4) (λa=>K .ret (qn a))) (λF b c d e=>f182t7 N b c d e _) (by kernel_rfl)
def f182t6 N a b c d (K:KT J):=vL (wu a b c d) (f182t6L N (jK BA K) N a b c d) (by kernel_rfl)
def f182t5 N a b c d (K:KT J):=vB 0 BA K (fu.Z5 N a b c d (K .nrm s4) (λe=>K .ret (qn e))) (f182t6 N a b c d _) (by kernel_rfl)
def f182t3 N a b (K:KT J):=vQ (λk=>fu.Z4 N a b k) (f182t4 N a b _) (dn λa b c d=>f182t5 N a b c d K)
def f182t8 N  (K:KT J):wv N 7 s4 f182lE K =
 fu.Z8 N (λa=>K .ret (qn a)):=by kernel_rfl
def f182t2 N a b (K:KT J):=vQ (λk=>fu.Z3 N a b k (λc=>K .ret (qn c))) (f182t3 N a b _) (f182t8 N K)
def f182t0 N a b (K:KT J):=vQ (λk=>fu.Z1 N a b k) (f182t1 N a b _) (cX λa b=>f182t2 N a b K)
def f182ok(h:fu.Spec):av Tryz.prog 182 Bz :=
 bu Tryz.func182 bq f182GOk (λN X K=>f182t0 N X.1 X.2.1 K) (by kernel_rfl) λX hb hp=>by obtain⟨a,b,_⟩:=X;obtain⟨N,h⟩:=h a b hb.1;exact⟨N,Eq.trans (by kernel_rfl) (h N (Nat.le_refl N))⟩
def e182ok:av Tryz.prog 182 Bz:=f182ok fu.ok
def JP:aW:=⟨[⟨.sl 3 (.int .i64),false,false⟩,⟨.int .i64,false,false⟩],[⟨.bool,false,false⟩]⟩
def BB:aK:=⟨JP,none,λX=>((),((lr.g X.1 X.2.1),()))⟩
def JQ:Gm:=aD bi 182 Bz
def f157GOk:aw Tryz.prog JQ:=(aw.nil).add e182ok (by kernel_rfl)
def f157lE:ab:=⟨[],[],[],[],[]⟩
def f157s0(a:LI)(b:Int):St:=be JP.ps (a,(b,()))
def f157s1(a:Bool):St:=af [(4,xB a)] [] []
def f157l1:ab:=⟨[4],[],[],[],[]⟩
def f157B:Nat->Option ab:=az [(1000000,f157l1)]
abbrev f157j{J:Type}(N n:Nat)(U:St)(l:ab)(K:KT J):Option J:=an JQ bm f157B N (a8 99 (bn Tryz.f157) n) .n U (ay (some l) K)
def f157t0 N a b (K:KT J):f157j N 1 (f157s0 a b) f157lE K =
 lr.Z0 N a b (λc=>K .ret (f157s1 c)):=by kernel_rfl
def f157ok(h:lr.Spec):av Tryz.prog 157 BB :=
 bu Tryz.func157 bq f157GOk (λN X K=>f157t0 N X.1 X.2.1 K) (by kernel_rfl) λX hb hp=>by obtain⟨a,b,_⟩:=X;obtain⟨N,h⟩:=h a b hb.1;exact⟨N,Eq.trans (by kernel_rfl) (h N (Nat.le_refl N))⟩
def e157ok:av Tryz.prog 157 BB:=f157ok lr.ok
def JR:aW:=⟨[⟨.sl 3 (.int .i64),false,false⟩,⟨.int .i64,false,false⟩],[⟨.bool,false,false⟩]⟩
def BC:aK:=⟨JR,none,λX=>((),((eS.g X.1 X.2.1),()))⟩
def JS:Gm:=aD (aD bi 91 qa) 157 BB
def f116GOk:aw Tryz.prog JS:=((aw.nil).add wd (by kernel_rfl)).add e157ok (by kernel_rfl)
def f116lE:ab:=⟨[],[],[],[],[]⟩
def f116s0(a:LI)(b:Int):St:=be JR.ps (a,(b,()))
def ww(a:LI)(b:Int):St:=af [(0,.c (.sn 3 tI a none)),(1,xi b)] [] []
def JT:ab:=⟨[0,1],[],[],[],[]⟩
def wx(a:LI)(b:Int)(d:LI)(e f:Int):St:=af [(0,.c (.sn 3 tI a none)),(1,xi b),(11,.c (.sn 3 tI d none)),(12,xi e),(13,xi f)] [] []
def JU:ab:=⟨[0,1,11,12,13],[],[],[],[]⟩
def s5 :St:=af [] [] []
def BD:ab:=⟨[],[],[],[],[]⟩
def mt(a:Bool):St:=af [(4,xB a)] [] []
def f116l4:ab:=⟨[4],[],[],[],[]⟩
def f116B:Nat->Option ab:=az [(0,BD),(1000000,f116l4)]
abbrev s6{J:Type}(N n:Nat)(U:St)(l:ab)(K:KT J):Option J:=an JS bm f116B N (a8 99 (bn Tryz.f116) n) .n U (ay (some l) K)
def f116t1 N a b (K:KT J):s6 N 2 (f116s0 a b) JT K =
 eS.Z1 N a b (λa b=>K .nrm (ww a b)):=by kernel_rfl
def f116t3 N a b (K:KT J):s6 N 5 (ww a b) JT K =
 eS.Z3 N a b (λa b=>K .nrm (ww a b)) (λc=>K .ret (mt c)):=by kernel_rfl
def f116t6 N a b (K:KT J):s6 N 19 (ww a b) JU K =
 eS.Z6 N a b (λa b c d e=>K .nrm (wx a b c d e)):=by kernel_rfl
def f116t9 N a b c d e (K:KT J):s6 N 75 (wx a b c d e) JU K =
 eS.Z9 N a b c d e (λa b c d e=>K .nrm (wx a b c d e)) (K (.exit 0) s5) (λf=>K .ret (mt f)):=by kernel_rfl
def f116t8L N (K:KT J):=j8 K (eS.Z8L N (K (.exit 0) s5) (λa=>K .ret (mt a))) (λb c d e f k=>eS.Z9 N b c d e f k (K (.exit 0) s5) (λa=>K .ret (mt a))) (λF b c d e f=>f116t9 N b c d e f _) (by kernel_rfl)
def f116t8 N a b c d e (K:KT J):=vL (wx a b c d e) (f116t8L N (jK BD K) N a b c d e) (by kernel_rfl)
def f116t7 N a b c d e (K:KT J):=vB 0 BD K (eS.Z7 N a b c d e (K .nrm s5) (λf=>K .ret (mt f))) (f116t8 N a b c d e _) (by kernel_rfl)
def f116t5 N a b (K:KT J):=vQ (λk=>eS.Z6 N a b k) (f116t6 N a b _) (bO λa b c d e=>f116t7 N a b c d e K)
def f116t10 N  (K:KT J):s6 N 15 s5 f116lE K =
 eS.Z10 N (λa=>K .ret (mt a)):=by kernel_rfl
def f116t4 N a b (K:KT J):=vQ (λk=>eS.Z5 N a b k (λc=>K .ret (mt c))) (f116t5 N a b _) (f116t10 N K)
def f116t2 N a b (K:KT J):=vQ (λk=>eS.Z3 N a b k (λc=>K .ret (mt c))) (f116t3 N a b _) (cX λa b=>f116t4 N a b K)
def f116t0 N a b (K:KT J):=vQ (λk=>eS.Z1 N a b k) (f116t1 N a b _) (cX λa b=>f116t2 N a b K)
def f116ok(h:eS.Spec):av Tryz.prog 116 BC :=
 bu Tryz.func116 bq f116GOk (λN X K=>f116t0 N X.1 X.2.1 K) (by kernel_rfl) λX hb hp=>by obtain⟨a,b,_⟩:=X;obtain⟨N,h⟩:=h a b hb.1;exact⟨N,Eq.trans (by kernel_rfl) (h N (Nat.le_refl N))⟩
def e116ok:av Tryz.prog 116 BC:=f116ok eS.ok
def JV:aW:=⟨[⟨.pair (.int .i64) (.pair (.int .i64) (.sl 3 (.int .i64))),true,false⟩,⟨.sl 3 (.int .i64),false,false⟩],[⟨.pair (.int .i64) (.pair (.int .i64) (.sl 3 (.int .i64))),true,false⟩,⟨.bool,false,false⟩]⟩
def BE:aK:=⟨JV,none,λX=>((),((bM.g X.1 X.2.1).1,((bM.g X.1 X.2.1).2,())))⟩
def JW:Gm:=aD (aD (aD bi 63 n7) 83 ml) 116 BC
def f81GOk:aw Tryz.prog JW:=(((aw.nil).add sZ (by kernel_rfl)).add qc (by kernel_rfl)).add e116ok (by kernel_rfl)
def f81lE:ab:=⟨[],[],[],[],[]⟩
def f81s0(a:MT)(b:LI):St:=be JV.ps (a,(b,()))
def wy(a:LI)(b d:Int)(e:LI)(f g:Int):St:=af [(1,.c (.sn 3 tI a none)),(2,xb 2),(4,xb 4)] [(2,(27,[yi b,yi d,.sn 3 tI e none])),(4,(27,[yi f,yi g,.nil]))] []
def JX:ab:=⟨[1,2,4],[2,4],[],[],[]⟩
def JY(a b:LI)(d e:Int)(f:LI)(g h i j:Int):St:=af [(1,.c (.sn 3 tI b none)),(2,xb 2),(4,xb 4),(6,xb 6)] [(2,(27,[yi d,yi e,.sn 3 tI f none])),(4,(27,[yi g,yi h,.nil])),(6,(27,[yi i,yi j,.own 20000386]))] [(20000386,(⟨3,.int .i64,a,true,false⟩:ac))]
def f81l2:ab:=⟨[1,2,4,6],[2,4,6],[],[],[(⟨true,6,2⟩,20000386)]⟩
def jl(a b:LI)(d e f:Int)(g:LI)(h i j l:Int):St:=af [(1,.c (.sn 3 tI b none)),(2,xb 2),(4,xb 4),(6,xb 6),(7,xi d)] [(2,(27,[yi e,yi f,.sn 3 tI g none])),(4,(27,[yi h,yi i,.nil])),(6,(27,[yi j,yi l,.own 20000386]))] [(20000386,(⟨3,.int .i64,a,true,false⟩:ac))]
def mv:ab:=⟨[1,2,4,6,7],[2,4,6],[],[],[(⟨true,6,2⟩,20000386)]⟩
def wz(a b:LI)(d e f g:Int)(h:LI)(i j l m:Int):St:=af [(1,.c (.sn 3 tI b none)),(2,xb 2),(4,xb 4),(6,xb 6),(7,xi d),(8,xi e)] [(2,(27,[yi f,yi g,.sn 3 tI h none])),(4,(27,[yi i,yi j,.nil])),(6,(27,[yi l,yi m,.own 20000386]))] [(20000386,(⟨3,.int .i64,a,true,false⟩:ac))]
def JZ:ab:=⟨[1,2,4,6,7,8],[2,4,6],[],[],[(⟨true,6,2⟩,20000386)]⟩
def wA(a b:LI)(d e f g h:Int)(i:LI)(j l m o:Int):St:=af [(1,.c (.sn 3 tI b none)),(2,xb 2),(4,xb 4),(6,xb 6),(7,xi d),(8,xi e),(9,xi f)] [(2,(27,[yi g,yi h,.sn 3 tI i none])),(4,(27,[yi j,yi l,.nil])),(6,(27,[yi m,yi o,.own 20000386]))] [(20000386,(⟨3,.int .i64,a,true,false⟩:ac))]
def J0:ab:=⟨[1,2,4,6,7,8,9],[2,4,6],[],[],[(⟨true,6,2⟩,20000386)]⟩
def qo(a:LI)(b c d e:Int):St:=af [(4,xb 4),(6,xb 6)] [(4,(27,[yi b,yi c,.nil])),(6,(27,[yi d,yi e,.own 20000386]))] [(20000386,(⟨3,.int .i64,a,true,false⟩:ac))]
def BF:ab:=⟨[4,6],[4,6],[],[],[(⟨true,6,2⟩,20000386)]⟩
def BG(a:LI)(b:Bool)(c d:Int):St:=af [(4,xb 4),(5,xB b)] [(4,(27,[yi c,yi d,.own 20000258]))] [(20000258,(⟨3,.int .i64,a,true,false⟩:ac))]
def f81l7:ab:=⟨[4,5],[4],[⟨⟨true,4,2⟩,30000000,3,.int .i64,true⟩],[],[(⟨true,4,2⟩,20000258)]⟩
def f81B:Nat->Option ab:=az [(2,mv),(1,mv),(0,BF),(1000000,f81l7)]
abbrev jM{J:Type}(N n:Nat)(U:St)(l:ab)(K:KT J):Option J:=an JW bm f81B N (a8 99 (bn Tryz.f81) n) .n U (ay (some l) K)
def f81t1 N b a (K:KT J):jM N 2 (f81s0 b a) JX K =
 bM.Z1 N b a (λa c d e f g=>K .nrm (wy a c d e f g)):=by kernel_rfl
def f81t3 N c d e f a b (K:KT J):jM N 5 (wy c d e f a b) JX K =
 bM.Z3 N c d e f a b (λc d e f a b=>K .nrm (wy c d e f a b)) (λg h a b=>K .ret (BG g h a b)):=by kernel_rfl
def f81t5 N a b c d e f (K:KT J):jM N 11 (wy a b c d e f) f81l2 K =
 bM.Z5 N a b c d e f (λg a b c d e f h i=>K .nrm (JY g a b c d e f h i)):=by kernel_rfl
def f81t8 N a b c d e f g h i (K:KT J):jM N 39 (JY a b c d e f g h i) mv K =
 bM.Z8 N a b c d e f g h i (λa b j c d e f g h i=>K .nrm (jl a b j c d e f g h i)):=by kernel_rfl
def f81t12 N a f g h i j b c d e (K:KT J):jM N 279 (jl a f g h i j b c d e) mv K =
 bM.Z12 N a f g h i j b c d e (λa f g h i j b c d e=>K .nrm (jl a f g h i j b c d e)) (λa b c d e=>K (.exit 0) (qo a b c d e)):=by kernel_rfl
def f81t16 N a b c d e f g h i j (K:KT J):jM N 2199 (jl a b c d e f g h i j) JZ K =
 bM.Z16 N a b c d e f g h i j (λa b c l d e f g h i j=>K .nrm (wz a b c l d e f g h i j)):=by kernel_rfl
def f81t18 N a b c d e f g h i j l (K:KT J):jM N 5271 (wz a b c d e f g h i j l) JZ K =
 bM.Z18 N a b c d e f g h i j l (λa b c d e f g h i j l=>K .nrm (wz a b c d e f g h i j l)):=by kernel_rfl
def f81t20 N a b c d e f g h i j l (K:KT J):jM N 11415 (wz a b c d e f g h i j l) J0 K =
 bM.Z20 N a b c d e f g h i j l (λa b c d m e f g h i j l=>K .nrm (wA a b c d m e f g h i j l)):=by kernel_rfl
def f81t23 N a b c l m d e f g h i j (K:KT J):jM N 40087 (wA a b c l m d e f g h i j) J0 K =
 bM.Z23 N a b c l m d e f g h i j (λa b c l m d e f g h i j=>K .nrm (wA a b c l m d e f g h i j)) (λa b c d e f g h i j=>K (.exit 2) (jl a b c d e f g h i j)):=by kernel_rfl
def f81t22L N (K:KT J):=rL K (bM.Z22L N (λa b c d e f g h i j=>K (.exit 2) (jl a b c d e f g h i j))) (λa b c l m d e f g h i j k=>bM.Z23 N a b c l m d e f g h i j k (λa b c d e f g h i j=>K (.exit 2) (jl a b c d e f g h i j))) (λF a b c l m d e f g h i j=>f81t23 N a b c l m d e f g h i j _) (by kernel_rfl)
def f81t22 N a b c d e f g h i j l m (K:KT J):=vL (wA a b c d e f g h i j l m) (f81t22L N (jK mv K) N a b c d e f g h i j l m) (by kernel_rfl)
def f81t21 N a b c l m d e f g h i j (K:KT J):=vB 2 mv K (bM.Z21 N a b c l m d e f g h i j (λa b c d e f g h i j=>K .nrm (jl a b c d e f g h i j))) (f81t22 N a b c l m d e f g h i j _) (by kernel_rfl)
def f81t19 N a b c d e f g h i j l (K:KT J):=vQ (λk=>bM.Z20 N a b c d e f g h i j l k) (f81t20 N a b c d e f g h i j l _) (j0 λa b c d m e f g h i j l=>f81t21 N a b c d m e f g h i j l K)
def f81t17 N a b c d e f g h i j l (K:KT J):=vQ (λk=>bM.Z18 N a b c d e f g h i j l k) (f81t18 N a b c d e f g h i j l _) (fE λa b c d e f g h i j l=>f81t19 N a b c d e f g h i j l K)
def f81t15 N a b c d e f g h i j (K:KT J):=vQ (λk=>bM.Z16 N a b c d e f g h i j k) (f81t16 N a b c d e f g h i j _) (fE λa b c l d e f g h i j=>f81t17 N a b c l d e f g h i j K)
def f81t14 N a b c d e f g h i j (K:KT J):=vB 1 mv K (bM.Z14 N a b c d e f g h i j (λa b c d e f g h i j=>K .nrm (jl a b c d e f g h i j))) (f81t15 N a b c d e f g h i j _) (by kernel_rfl)
def f81t24 N a b c d e f g h i j (K:KT J):jM N 919 (jl a b c d e f g h i j) mv K =
 bM.Z24 N a b c d e f g h i j (λa b c d e f g h i j=>K .nrm (jl a b c d e f g h i j)):=by kernel_rfl
def f81t13 N a b c d e f g h i j (K:KT J):=vQ (λk=>bM.Z14 N a b c d e f g h i j k) (f81t14 N a b c d e f g h i j _) (cJ λa b c d e f g h i j=>f81t24 N a b c d e f g h i j K)
def f81t11 N a f g h i j b c d e (K:KT J):=vQ (λk=>bM.Z12 N a f g h i j b c d e k (λa b c d e=>K (.exit 0) (qo a b c d e))) (f81t12 N a f g h i j b c d e _) (cJ λa f g h i j b c d e=>f81t13 N a f g h i j b c d e K)
def f81t10L N (K:KT J):=kP K (bM.Z10L N (λa b c d e=>K (.exit 0) (qo a b c d e))) (λa f g h i j b c d e k=>bM.Z11 N a f g h i j b c d e k (λa b c d e=>K (.exit 0) (qo a b c d e))) (λF a f g h i j b c d e=>f81t11 N a f g h i j b c d e _) (by kernel_rfl)
def f81t10 N a b c d e f g h i j (K:KT J):=vL (jl a b c d e f g h i j) (f81t10L N (jK BF K) N a b c d e f g h i j) (by kernel_rfl)
def f81t9 N a f g h i j b c d e (K:KT J):=vB 0 BF K (bM.Z9 N a f g h i j b c d e (λa b c d e=>K .nrm (qo a b c d e))) (f81t10 N a f g h i j b c d e _) (by kernel_rfl)
def f81t7 N a b c d e f g h i (K:KT J):=vQ (λk=>bM.Z8 N a b c d e f g h i k) (f81t8 N a b c d e f g h i _) (cJ λa b j c d e f g h i=>f81t9 N a b j c d e f g h i K)
def f81t25 N c a b d e (K:KT J):jM N 31 (qo c a b d e) f81lE K =
 bM.Z25 N c a b d e (λf g a b=>K .ret (BG f g a b)):=by kernel_rfl
def f81t6 N a f g h i b c d e (K:KT J):=vQ (λk=>bM.Z7 N a f g h i b c d e k) (f81t7 N a f g h i b c d e _) (bO λa b c d e=>f81t25 N a b c d e K)
def f81t4 N a b c d e f (K:KT J):=vQ (λk=>bM.Z5 N a b c d e f k) (f81t5 N a b c d e f _) (c6 λg a b c d e f h i=>f81t6 N g a b c d e f h i K)
def f81t2 N c d e f a b (K:KT J):=vQ (λk=>bM.Z3 N c d e f a b k (λg h a b=>K .ret (BG g h a b))) (f81t3 N c d e f a b _) (cC λc d e f a b=>f81t4 N c d e f a b K)
def f81t0 N b a (K:KT J):=vQ (λk=>bM.Z1 N b a k) (f81t1 N b a _) (cC λa c d e f g=>f81t2 N a c d e f g K)
def f81ok(h:bM.Spec):av Tryz.prog 81 BE :=
 bu Tryz.func81 bq f81GOk (λN X K=>f81t0 N X.1 X.2.1 K) (by kernel_rfl) λX hb hp=>by obtain⟨a,b,_⟩:=X;obtain⟨N,h⟩:=h a b hb.1 hb.2.1;exact⟨N,Eq.trans (by kernel_rfl) (h N (Nat.le_refl N))⟩
def e81ok:av Tryz.prog 81 BE:=f81ok bM.ok
end Go.Fw
namespace Go.Fw
variable {J : Type}
open Go.Proofs
variable [DC]
def J1:aW:=⟨[⟨.int .i64,false,false⟩],[⟨.bool,false,false⟩]⟩
def BH:aK:=⟨J1,none,λX=>((),((jT.g X.1),()))⟩
def J2:Gm:=bi
def f132GOk:aw Tryz.prog J2:=aw.nil
def f132lE:ab:=⟨[],[],[],[],[]⟩
def f132s0(a:Int):St:=be J1.ps (a,())
def f132s1(a:Bool):St:=af [(2,xB a)] [] []
def f132l1:ab:=⟨[2],[],[],[],[]⟩
def f132B:Nat->Option ab:=az [(1000000,f132l1)]
abbrev f132j{J:Type}(N n:Nat)(U:St)(l:ab)(K:KT J):Option J:=an J2 bm f132B N (a8 99 (bn Tryz.f132) n) .n U (ay (some l) K)
def f132t0 N a (K:KT J):f132j N 1 (f132s0 a) f132lE K =
 jT.Z0 N a (λb=>K .ret (f132s1 b)):=by kernel_rfl
def f132ok(h:jT.Spec):av Tryz.prog 132 BH :=
 bu Tryz.func132 bq f132GOk (λN X K=>f132t0 N X.1 K) (by kernel_rfl) λX hb hp=>by obtain⟨a,_⟩:=X;obtain⟨N,h⟩:=h a;exact⟨N,Eq.trans (by kernel_rfl) (h N (Nat.le_refl N))⟩
def e132ok:av Tryz.prog 132 BH:=f132ok jT.ok
def J3:aW:=⟨[⟨.int .i64,false,false⟩,⟨.int .i64,false,false⟩],[⟨.int .i64,false,false⟩]⟩
def BI:aK:=⟨J3,none,λX=>((),((jr.g X.1 X.2.1),()))⟩
def J4:Gm:=aD bi 132 BH
def f95GOk:aw Tryz.prog J4:=(aw.nil).add e132ok (by kernel_rfl)
def f95lE:ab:=⟨[],[],[],[],[]⟩
def f95s0(a b:Int):St:=be J3.ps (a,(b,()))
def f95s1(a:Int):St:=af [(4,xi a)] [] []
def f95l1:ab:=⟨[4],[],[],[],[]⟩
def f95B:Nat->Option ab:=az [(1000000,f95l1)]
abbrev f95j{J:Type}(N n:Nat)(U:St)(l:ab)(K:KT J):Option J:=an J4 bm f95B N (a8 99 (bn Tryz.f95) n) .n U (ay (some l) K)
def f95t0 N a b (K:KT J):f95j N 1 (f95s0 a b) f95lE K =
 jr.Z0 N a b (λc=>K .ret (f95s1 c)):=by kernel_rfl
def f95ok(h:jr.Spec):av Tryz.prog 95 BI :=
 bu Tryz.func95 bq f95GOk (λN X K=>f95t0 N X.1 X.2.1 K) (by kernel_rfl) λX hb hp=>by obtain⟨a,b,_⟩:=X;obtain⟨N,h⟩:=h a b;exact⟨N,Eq.trans (by kernel_rfl) (h N (Nat.le_refl N))⟩
def e95ok:av Tryz.prog 95 BI:=f95ok jr.ok
def J5:aW:=⟨[⟨.sl 3 (.int .i64),false,false⟩,⟨.sl 3 (.int .i64),false,false⟩],[⟨.int .i64,false,false⟩]⟩
def wB:aK:=⟨J5,none,λX=>((),((eT.g X.1 X.2.1),()))⟩
def J6:Gm:=aD bi 95 BI
def f51GOk:aw Tryz.prog J6:=(aw.nil).add e95ok (by kernel_rfl)
def f51lE:ab:=⟨[],[],[],[],[]⟩
def f51s0(a b:LI):St:=be J5.ps (a,(b,()))
def n8(a b:LI):St:=af [(0,.c (.sn 3 tI a none)),(1,.c (.sn 3 tI b none))] [] []
def wC:ab:=⟨[0,1],[],[],[],[]⟩
def wD(a b d:LI)(e f:Int):St:=af [(0,.c (.sn 3 tI a none)),(1,.c (.sn 3 tI b none)),(9,.c (.sn 3 tI d none)),(10,xi e),(11,xi f)] [] []
def J7:ab:=⟨[0,1,9,10,11],[],[],[],[]⟩
def qp(a:Int):St:=af [(4,xi a)] [] []
def f51l3:ab:=⟨[4],[],[],[],[]⟩
def f51B:Nat->Option ab:=az [(0,wC),(1000000,f51l3)]
abbrev wE{J:Type}(N n:Nat)(U:St)(l:ab)(K:KT J):Option J:=an J6 bm f51B N (a8 99 (bn Tryz.f51) n) .n U (ay (some l) K)
def f51t1 N a b (K:KT J):wE N 2 (f51s0 a b) wC K =
 eT.Z1 N a b (λa b=>K .nrm (n8 a b)):=by kernel_rfl
def f51t4 N a b (K:KT J):wE N 9 (n8 a b) J7 K =
 eT.Z4 N a b (λa b c d e=>K .nrm (wD a b c d e)):=by kernel_rfl
def f51t7 N a b c d e (K:KT J):wE N 37 (wD a b c d e) J7 K =
 eT.Z7 N a b c d e (λa b c d e=>K .nrm (wD a b c d e)) (λa b=>K (.exit 0) (n8 a b)) (λf=>K .ret (qp f)):=by kernel_rfl
def f51t6L N (K:KT J):=j8 K (eT.Z6L N (λa b=>K (.exit 0) (n8 a b)) (λc=>K .ret (qp c))) (λa b d e f k=>eT.Z7 N a b d e f k (λa b=>K (.exit 0) (n8 a b)) (λc=>K .ret (qp c))) (λF a b d e f=>f51t7 N a b d e f _) (by kernel_rfl)
def f51t6 N a b c d e (K:KT J):=vL (wD a b c d e) (f51t6L N (jK wC K) N a b c d e) (by kernel_rfl)
def f51t5 N a b c d e (K:KT J):=vB 0 wC K (eT.Z5 N a b c d e (λa b=>K .nrm (n8 a b)) (λf=>K .ret (qp f))) (f51t6 N a b c d e _) (by kernel_rfl)
def f51t3 N a b (K:KT J):=vQ (λk=>eT.Z4 N a b k) (f51t4 N a b _) (bO λa b c d e=>f51t5 N a b c d e K)
def f51t8 N a b (K:KT J):wE N 7 (n8 a b) f51lE K =
 eT.Z8 N a b (λc=>K .ret (qp c)):=by kernel_rfl
def f51t2 N a b (K:KT J):=vQ (λk=>eT.Z3 N a b k (λc=>K .ret (qp c))) (f51t3 N a b _) (cX λa b=>f51t8 N a b K)
def f51t0 N a b (K:KT J):=vQ (λk=>eT.Z1 N a b k) (f51t1 N a b _) (cX λa b=>f51t2 N a b K)
def f51ok(h:eT.Spec):av Tryz.prog 51 wB :=
 bu Tryz.func51 bq f51GOk (λN X K=>f51t0 N X.1 X.2.1 K) (by kernel_rfl) λX hb hp=>by obtain⟨a,b,_⟩:=X;obtain⟨N,h⟩:=h a b hb.1 hb.2.1;exact⟨N,Eq.trans (by kernel_rfl) (h N (Nat.le_refl N))⟩
def J8:av Tryz.prog 51 wB:=f51ok eT.ok
end Go.Fw
namespace Go.Fw
variable {J : Type}
open Go.Proofs
def J9:aW:=⟨[⟨.pair (.int .i64) (.pair (.int .i64) (.sl 3 (.int .i64))),true,false⟩],[⟨.pair (.int .i64) (.pair (.int .i64) (.sl 3 (.int .i64))),true,false⟩,⟨.bool,false,false⟩]⟩
def BJ:aK:=⟨J9,none,λX=>((),((cA.g X.1).1,((cA.g X.1).2,())))⟩
def Ka:Gm:=aD (aD (aD (aD bi 51 wB) 63 n7) 80 Bw) 81 BE
def f34GOk:aw Tryz.prog Ka:=((((aw.nil).add J8 (by kernel_rfl)).add sZ (by kernel_rfl)).add e80ok (by kernel_rfl)).add e81ok (by kernel_rfl)
def f34lE:ab:=⟨[],[],[],[],[]⟩
def f34s0(a:MT):St:=be J9.ps (a,())
def wF(a b:Int)(c:LI)(d e:Int):St:=af [(1,xb 1),(2,xb 2)] [(1,(27,[yi a,yi b,.sn 3 tI c none])),(2,(27,[yi d,yi e,.nil]))] []
def Kb:ab:=⟨[1,2],[1,2],[],[],[]⟩
def Kc(a b:Int)(c:LI)(d e f g:Int)(h:LI):St:=af [(1,xb 1),(2,xb 2),(4,xb 4)] [(1,(27,[yi a,yi b,.sn 3 tI c none])),(2,(27,[yi d,yi e,.nil])),(4,(27,[yi f,yi g,.sn 3 tI h none]))] []
def f34l2:ab:=⟨[1,2,4],[1,2,4],[],[],[]⟩
def BK(a:LL)(b c d e:Int)(f:LI)(g h i j:Int)(l:LI):St:=af [(1,xb 1),(2,xb 2),(4,xb 4),(23,xo 1001472),(24,xi b),(25,xi c)] [(1,(27,[yi d,yi e,.sn 3 tI f none])),(2,(27,[yi g,yi h,.nil])),(4,(27,[yi i,yi j,.sn 3 tI l none]))] [(1001472,(⟨22,.sl 3 tI,a,true,false⟩:ac))]
def Kd:ab:=⟨[1,2,4,23,24,25],[1,2,4],[],[],[(⟨false,23,0⟩,1001472)]⟩
def BL(a:LL)(b:LI)(c d e f:Int)(g:LI)(h i j l:Int):St:=af [(1,xb 1),(2,xb 2),(4,xb 4),(23,xo 1001472),(24,xi c),(25,xi d)] [(1,(27,[yi e,yi f,.sn 3 tI g none])),(2,(27,[yi h,yi i,.nil])),(4,(27,[yi j,yi l,.own 20000258]))] [(1001472,(⟨22,.sl 3 tI,a,true,false⟩:ac)),(20000258,(⟨3,.int .i64,b,true,false⟩:ac))]
def Ke:ab:=⟨[1,2,4,23,24,25],[1,2,4],[],[],[(⟨false,23,0⟩,1001472),(⟨true,4,2⟩,20000258)]⟩
def n9(a:LI)(b c d e:Int):St:=af [(2,xb 2),(4,xb 4)] [(2,(27,[yi b,yi c,.nil])),(4,(27,[yi d,yi e,.own 20000258]))] [(20000258,(⟨3,.int .i64,a,true,false⟩:ac))]
def BM:ab:=⟨[2,4],[2,4],[],[],[(⟨true,4,2⟩,20000258)]⟩
def BN(a:LI)(b:Bool)(c d:Int):St:=af [(2,xb 2),(3,xB b)] [(2,(27,[yi c,yi d,.own 20000130]))] [(20000130,(⟨3,.int .i64,a,true,false⟩:ac))]
def f34l6:ab:=⟨[2,3],[2],[⟨⟨true,2,2⟩,30000000,3,.int .i64,true⟩],[],[(⟨true,2,2⟩,20000130)]⟩
def f34B:Nat->Option ab:=az [(0,BM),(1000000,f34l6)]
abbrev oa{J:Type}(N n:Nat)(U:St)(l:ab)(K:KT J):Option J:=an Ka bm f34B N (a8 99 (bn Tryz.f34) n) .n U (ay (some l) K)
def f34t1 N a (K:KT J):oa N 2 (f34s0 a) Kb K =
 cA.Z1 N a (λb c d e f=>K .nrm (wF b c d e f)):=by kernel_rfl
def f34t3 N c d e a b (K:KT J):oa N 5 (wF c d e a b) Kb K =
 cA.Z3 N c d e a b (λc d e a b=>K .nrm (wF c d e a b)) (λf g a b=>K .ret (BN f g a b)):=by kernel_rfl
def f34t5 N a b c d e (K:KT J):oa N 11 (wF a b c d e) f34l2 K =
 cA.Z5 N a b c d e (λa b c d e f g h=>K .nrm (Kc a b c d e f g h)):=by kernel_rfl
def f34t8 N a b c d e f g h (K:KT J):oa N 39 (Kc a b c d e f g h) Kd K =
 cA.Z8 N a b c d e f g h (λi j l a b c d e f g h=>K .nrm (BK i j l a b c d e f g h)):=by kernel_rfl
def f34t11 N f a g h i j l b c d e (K:KT J):oa N 151 (BL f a g h i j l b c d e) Ke K =
 cA.Z11 N f a g h i j l b c d e (λf a g h i j l b c d e=>K .nrm (BL f a g h i j l b c d e)) (λa b c d e=>K (.exit 0) (n9 a b c d e)):=by kernel_rfl
def f34t12 N f g h i j l a b c d e (K:KT J):oa N 151 (BK f g h i j l a b c d e) Ke K =
 cA.Z12 N f g h i j l a b c d e (λf e g h i j l a b c d=>K .nrm (BL f e g h i j l a b c d)) (λe a b c d=>K (.exit 0) (n9 e a b c d)):=by kernel_rfl
def f34t10L N (K:KT J):=oZ K (cA.Z10L N (λa b c d e=>K (.exit 0) (n9 a b c d e))) (λf a g h i j l b c d e k=>cA.Z11 N f a g h i j l b c d e k (λa b c d e=>K (.exit 0) (n9 a b c d e))) (λF f a g h i j l b c d e=>f34t11 N f a g h i j l b c d e _) (by kernel_rfl)
def f34t10 N f g h i j l a b c d e (K:KT J):=vP (BK f g h i j l a b c d e) Kd (λk=>cA.Z12 N f g h i j l a b c d e k (λe a b c d=>K (.exit 0) (n9 e a b c d))) (f34t12 N f g h i j l a b c d e _) (fE λf e g h i j l a b c d=>f34t10L N (jK BM K) N f e g h i j l a b c d) (by kernel_rfl)
def f34t9 N f g h i j l a b c d e (K:KT J):=vB 0 BM K (cA.Z9 N f g h i j l a b c d e (λe a b c d=>K .nrm (n9 e a b c d))) (f34t10 N f g h i j l a b c d e _) (by kernel_rfl)
def f34t7 N a b c d e f g h (K:KT J):=vQ (λk=>cA.Z8 N a b c d e f g h k) (f34t8 N a b c d e f g h _) (fE λi j l a b c d e f g h=>f34t9 N i j l a b c d e f g h K)
def f34t13 N c a b d e (K:KT J):oa N 31 (n9 c a b d e) f34lE K =
 cA.Z13 N c a b d e (λf g a b=>K .ret (BN f g a b)):=by kernel_rfl
def f34t6 N f g h a b c d e (K:KT J):=vQ (λk=>cA.Z7 N f g h a b c d e k) (f34t7 N f g h a b c d e _) (bO λe a b c d=>f34t13 N e a b c d K)
def f34t4 N a b c d e (K:KT J):=vQ (λk=>cA.Z5 N a b c d e k) (f34t5 N a b c d e _) (eX λa b c d e f g h=>f34t6 N a b c d e f g h K)
def f34t2 N c d e a b (K:KT J):=vQ (λk=>cA.Z3 N c d e a b k (λf g a b=>K .ret (BN f g a b))) (f34t3 N c d e a b _) (bO λc d e a b=>f34t4 N c d e a b K)
def f34t0 N a (K:KT J):=vQ (λk=>cA.Z1 N a k) (f34t1 N a _) (bO λb c d e f=>f34t2 N b c d e f K)
def f34ok(h:cA.Spec):av Tryz.prog 34 BJ :=
 bu Tryz.func34 bq f34GOk (λN X K=>f34t0 N X.1 K) (by kernel_rfl) λX hb hp=>by obtain⟨a,_⟩:=X;obtain⟨N,h⟩:=h a hb.1;exact⟨N,Eq.trans (by kernel_rfl) (h N (Nat.le_refl N))⟩
def e34ok:av Tryz.prog 34 BJ:=f34ok cA.ok
def f121sig:aW:=⟨[⟨.int .i64,false,false⟩],[⟨.str,false,false⟩]⟩
def BO:aK:=⟨f121sig,(some λX=>strconv_Itoa.P X.1),λX=>((),((strconv_Itoa.g X.1),()))⟩
def z00:Go.Shelf.Ren:=⟨λ|171=>121|243=>159|246=>183|283=>195|284=>196|285=>197|286=>198|129=>131|317=>203|318=>204|319=>205|320=>206|337=>207|338=>208|n=>n,λ|3=>3|9=>9|2=>2|4=>4|171=>184|0=>0|53=>132|37=>37|5=>5|173=>186|212=>199|51=>130|20=>20|213=>200|46=>96|232=>201|233=>202|n=>n,λ|17=>5|18=>6|19=>7|n=>n⟩
def f121lay:LaysM.n171 Tryz.prog z00:={ mixed:=(by kernel_rfl),f129:=Tryz.func131.trans (congrArg some (by kernel_rfl)),f171:=Tryz.func121.trans (congrArg some (by kernel_rfl)),f243:=Tryz.func159.trans (congrArg some (by kernel_rfl)),f246:=Tryz.func183.trans (congrArg some (by kernel_rfl)),f283:=Tryz.func195.trans (congrArg some (by kernel_rfl)),f284:=Tryz.func196.trans (congrArg some (by kernel_rfl)),f285:=Tryz.func197.trans (congrArg some (by kernel_rfl)),f286:=Tryz.func198.trans (congrArg some (by kernel_rfl)),f317:=Tryz.func203.trans (congrArg some (by kernel_rfl)),f318:=Tryz.func204.trans (congrArg some (by kernel_rfl)),f319:=Tryz.func205.trans (congrArg some (by kernel_rfl)),f320:=Tryz.func206.trans (congrArg some (by kernel_rfl)),f337:=Tryz.func207.trans (congrArg some (by kernel_rfl)),f338:=Tryz.func208.trans (congrArg some (by kernel_rfl)),t0:=Tryz.underlying0,a0:=Tryz.isAgg0,z0:=Tryz.sizeOf0,v0:=Tryz.zeroValue0,t2:=Tryz.underlying2,a2:=Tryz.isAgg2,z2:=Tryz.sizeOf2,v2:=Tryz.zeroValue2,t3:=Tryz.underlying3,a3:=Tryz.isAgg3,z3:=Tryz.sizeOf3,v3:=Tryz.zeroValue3,t4:=Tryz.underlying4,a4:=Tryz.isAgg4,z4:=Tryz.sizeOf4,v4:=Tryz.zeroValue4,t5:=Tryz.underlying5,a5:=Tryz.isAgg5,z5:=Tryz.sizeOf5,v5:=Tryz.zeroValue5,t9:=Tryz.underlying9,a9:=Tryz.isAgg9,z9:=Tryz.sizeOf9,v9:=Tryz.zeroValue9,t20:=Tryz.underlying20,a20:=Tryz.isAgg20,z20:=Tryz.sizeOf20,v20:=Tryz.zeroValue20,t37:=Tryz.underlying37,a37:=Tryz.isAgg37,z37:=Tryz.sizeOf37,v37:=Tryz.zeroValue37,t46:=Tryz.underlying96,a46:=Tryz.isAgg96,z46:=Tryz.sizeOf96,v46:=Tryz.zeroValue96,t51:=Tryz.underlying130,a51:=Tryz.isAgg130,z51:=Tryz.sizeOf130,v51:=Tryz.zeroValue130,t53:=Tryz.underlying132,a53:=Tryz.isAgg132,z53:=Tryz.sizeOf132,v53:=Tryz.zeroValue132,t171:=Tryz.underlying184,a171:=Tryz.isAgg184,z171:=Tryz.sizeOf184,v171:=Tryz.zeroValue184,t173:=Tryz.underlying186,a173:=Tryz.isAgg186,z173:=Tryz.sizeOf186,v173:=Tryz.zeroValue186,t212:=Tryz.underlying199,a212:=Tryz.isAgg199,z212:=Tryz.sizeOf199,v212:=Tryz.zeroValue199,t213:=Tryz.underlying200,a213:=Tryz.isAgg200,z213:=Tryz.sizeOf200,t232:=Tryz.underlying201,a232:=Tryz.isAgg201,z232:=Tryz.sizeOf201,v232:=Tryz.zeroValue201,t233:=Tryz.underlying202,a233:=Tryz.isAgg202,z233:=Tryz.sizeOf202,v233:=Tryz.zeroValue202,g17:=(by kernel_rfl),g18:=(by kernel_rfl),g19:=(by kernel_rfl),i0:=(by kernel_rfl),i2:=(by kernel_rfl),i3:=(by kernel_rfl),i4:=(by kernel_rfl),i5:=(by kernel_rfl),i9:=(by kernel_rfl),i20:=(by kernel_rfl),i37:=(by kernel_rfl),i46:=(by kernel_rfl),i51:=(by kernel_rfl),i53:=(by kernel_rfl),i171:=(by kernel_rfl),i173:=(by kernel_rfl),i212:=(by kernel_rfl),i232:=(by kernel_rfl),i233:=(by kernel_rfl),m17:=(by kernel_rfl),m18:=(by kernel_rfl),m19:=(by kernel_rfl) }
def f121ok(_:True):av Tryz.prog 121 BO:=Oc Qw f121lay
def e121ok:av Tryz.prog 121 BO:=f121ok strconv_Itoa.ok
def Kf:aW:=⟨[⟨.int .i64,false,false⟩],[⟨.str,false,false⟩]⟩
def wG:aK:=⟨Kf,(some λX=>er.P X.1),λX=>((),((er.g X.1),()))⟩
def Kg:Gm:=aD bi 121 BO
def f90GOk:aw Tryz.prog Kg:=(aw.nil).add e121ok (by kernel_rfl)
def f90lE:ab:=⟨[],[],[],[],[]⟩
def f90s0(a:Int):St:=be Kf.ps (a,())
def f90s1(a:ByteArray):St:=af [(2,.c (.str a))] [] []
def f90l1:ab:=⟨[2],[],[],[],[]⟩
def f90B:Nat->Option ab:=az [(1000000,f90l1)]
abbrev f90j{J:Type}(N n:Nat)(U:St)(l:ab)(K:KT J):Option J:=an Kg bm f90B N (a8 99 (bn Tryz.f90) n) .n U (ay (some l) K)
def f90t0 N a (K:KT J):f90j N 1 (f90s0 a) f90lE K =
 er.Z0 N a (λb=>K .ret (f90s1 b)):=by kernel_rfl
def f90ok(h:er.Spec):av Tryz.prog 90 wG :=
 bu Tryz.func90 bq f90GOk (λN X K=>f90t0 N X.1 K) (by kernel_rfl) λX hb hp=>by obtain⟨a,_⟩:=X;obtain⟨N,h⟩:=h a hp;exact⟨N,Eq.trans (by kernel_rfl) (h N (Nat.le_refl N))⟩
def Kh:av Tryz.prog 90 wG:=f90ok er.ok
def f79sig:aW:=⟨[⟨.sl 9 (.str),false,false⟩,⟨.str,false,false⟩],[⟨.str,false,false⟩]⟩
def wH:aK:=⟨f79sig,(some λX=>strings_Join.P X.1 X.2.1),λX=>((),((strings_Join.g X.1 X.2.1),()))⟩
def Ki:Go.Shelf.Ren:=⟨λ|156=>79|165=>112|166=>113|169=>114|240=>153|241=>154|276=>179|277=>180|n=>n,λ|31=>70|9=>9|3=>3|4=>4|0=>0|20=>20|72=>114|76=>104|70=>112|37=>37|75=>103|127=>147|164=>169|5=>5|80=>116|n=>n,λn=>n⟩
def f79lay:Lays.n156 Tryz.prog Ki:={ mixed:=(by kernel_rfl),f156:=Tryz.func79.trans (congrArg some (by kernel_rfl)),f165:=Tryz.func112.trans (congrArg some (by kernel_rfl)),f166:=Tryz.func113.trans (congrArg some (by kernel_rfl)),f169:=Tryz.func114.trans (congrArg some (by kernel_rfl)),f240:=Tryz.func153.trans (congrArg some (by kernel_rfl)),f241:=Tryz.func154.trans (congrArg some (by kernel_rfl)),f276:=Tryz.func179.trans (congrArg some (by kernel_rfl)),f277:=Tryz.func180.trans (congrArg some (by kernel_rfl)),t0:=Tryz.underlying0,a0:=Tryz.isAgg0,z0:=Tryz.sizeOf0,v0:=Tryz.zeroValue0,t3:=Tryz.underlying3,a3:=Tryz.isAgg3,z3:=Tryz.sizeOf3,v3:=Tryz.zeroValue3,t4:=Tryz.underlying4,a4:=Tryz.isAgg4,z4:=Tryz.sizeOf4,v4:=Tryz.zeroValue4,t9:=Tryz.underlying9,a9:=Tryz.isAgg9,z9:=Tryz.sizeOf9,v9:=Tryz.zeroValue9,t20:=Tryz.underlying20,a20:=Tryz.isAgg20,z20:=Tryz.sizeOf20,v20:=Tryz.zeroValue20,t31:=Tryz.underlying70,a31:=Tryz.isAgg70,z31:=Tryz.sizeOf70,v31:=Tryz.zeroValue70,t37:=Tryz.underlying37,a37:=Tryz.isAgg37,z37:=Tryz.sizeOf37,v37:=Tryz.zeroValue37,t70:=Tryz.underlying112,a70:=Tryz.isAgg112,z70:=Tryz.sizeOf112,v70:=Tryz.zeroValue112,t72:=Tryz.underlying114,a72:=Tryz.isAgg114,z72:=Tryz.sizeOf114,v72:=Tryz.zeroValue114,t75:=Tryz.underlying103,a75:=Tryz.isAgg103,z75:=Tryz.sizeOf103,v75:=Tryz.zeroValue103,t76:=Tryz.underlying104,a76:=Tryz.isAgg104,z76:=Tryz.sizeOf104,v76:=Tryz.zeroValue104,t127:=Tryz.underlying147,a127:=Tryz.isAgg147,z127:=Tryz.sizeOf147,v127:=Tryz.zeroValue147,t164:=Tryz.underlying169,a164:=Tryz.isAgg169,z164:=Tryz.sizeOf169,v164:=Tryz.zeroValue169 }
def f79layX:Builder.Extra Tryz.prog Ki:={ sizeBuilder:=(by kernel_rfl),liesBuilder:=(by kernel_rfl),t5:=Tryz.underlying5,a5:=Tryz.isAgg5,z5:=Tryz.sizeOf5,v5:=Tryz.zeroValue5,infoByte:=(by kernel_rfl),cellsByte:=(by kernel_rfl),sizeByte:=(by kernel_rfl),neB5:=(by decide) }
def f79ok(_:True):av Tryz.prog 79 wH:=Oe f79lay f79layX
def Kj:av Tryz.prog 79 wH:=f79ok strings_Join.ok
def Kk:aW:=⟨[⟨.sl 3 (.int .i64),false,false⟩],[⟨.str,false,false⟩]⟩
def BP:aK:=⟨Kk,(some λX=>dw.P X.1),λX=>((),((dw.g X.1),()))⟩
def Kl:Gm:=aD (aD bi 79 wH) 90 wG
def f47GOk:aw Tryz.prog Kl:=((aw.nil).add Kj (by kernel_rfl)).add Kh (by kernel_rfl)
def f47lE:ab:=⟨[],[],[],[],[]⟩
def f47s0(a:LI):St:=be Kk.ps (a,())
def Km(a:LI):St:=af [(0,.c (.sn 3 tI a none))] [] []
def f47l1:ab:=⟨[0],[],[],[],[]⟩
def Kn(a:LI):St:=af [(0,.c (.sn 3 tI a none)),(3,.c (.nil))] [] []
def f47l2:ab:=⟨[0,3],[],[],[],[]⟩
def Ko(a:LI)(b d:Int):St:=af [(3,.c (.nil)),(6,.c (.sn 3 tI a none)),(7,xi b),(8,xi d)] [] []
def f47l3:ab:=⟨[3,6,7,8],[],[],[],[]⟩
def Kp(a:List ByteArray)(b:LI)(d e:Int):St:=af [(3,xo 1000192),(6,.c (.sn 3 tI b none)),(7,xi d),(8,xi e)] [] [(1000192,(⟨9,.str,a,true,false⟩:ac))]
def f47l4:ab:=⟨[3,6,7,8],[],[⟨⟨false,3,0⟩,30000000,9,.str,true⟩],[],[(⟨false,3,0⟩,1000192)]⟩
def s7(a:List ByteArray):St:=af [(3,xo 1000192)] [] [(1000192,(⟨9,.str,a,true,false⟩:ac))]
def BQ:ab:=⟨[3],[],[],[],[(⟨false,3,0⟩,1000192)]⟩
def f47s6(a:ByteArray):St:=af [(2,.c (.str a))] [] []
def f47l6:ab:=⟨[2],[],[],[],[]⟩
def f47B:Nat->Option ab:=az [(0,BQ),(1000000,f47l6)]
abbrev s8{J:Type}(N n:Nat)(U:St)(l:ab)(K:KT J):Option J:=an Kl bm f47B N (a8 99 (bn Tryz.f47) n) .n U (ay (some l) K)
def f47t1 N a (K:KT J):s8 N 2 (f47s0 a) f47l1 K =
 dw.Z1 N a (λa=>K .nrm (Km a)):=by kernel_rfl
def f47t3 N a (K:KT J):s8 N 5 (Km a) f47l2 K =
 dw.Z3 N a (λa=>K .nrm (Kn a)):=by kernel_rfl
def f47t6 N a (K:KT J):s8 N 19 (Kn a) f47l3 K =
 dw.Z6 N a (λb c d=>K .nrm (Ko b c d)):=by kernel_rfl
def f47t9 N a b c d (K:KT J):s8 N 75 (Kp a b c d) f47l4 K =
 dw.Z9 N a b c d (λa b c d=>K .nrm (Kp a b c d)) (λa=>K (.exit 0) (s7 a)):=by kernel_rfl
def f47t8L N (K:KT J):=nA K (dw.Z8L N (λa=>K (.exit 0) (s7 a))) (λa b c d k=>dw.Z9 N a b c d k (λa=>K (.exit 0) (s7 a))) (λF a b c d=>f47t9 N a b c d _) (by kernel_rfl)
def f47t8 N a b c (K:KT J):=vL (Ko a b c) (f47t8L N (jK BQ K) N ([]:List ByteArray) a b c) (by kernel_rfl)
def f47t7 N a b c (K:KT J):=vB 0 BQ K (dw.Z7 N a b c (λd=>K .nrm (s7 d))) (f47t8 N a b c _) (by kernel_rfl)
def f47t5 N a (K:KT J):=vQ (λk=>dw.Z6 N a k) (f47t6 N a _) (bZ λb c d=>f47t7 N b c d K)
def f47t10 N a (K:KT J):s8 N 15 (s7 a) f47lE K =
 dw.Z10 N a (λb=>K .ret (f47s6 b)):=by kernel_rfl
def f47t4 N a (K:KT J):=vQ (λk=>dw.Z5 N a k) (f47t5 N a _) (funext λb=>f47t10 N b K)
def f47t2 N a (K:KT J):=vQ (λk=>dw.Z3 N a k) (f47t3 N a _) (funext λa=>f47t4 N a K)
def f47t0 N a (K:KT J):=vQ (λk=>dw.Z1 N a k) (f47t1 N a _) (funext λa=>f47t2 N a K)
def f47ok(h:dw.Spec):av Tryz.prog 47 BP :=
 bu Tryz.func47 bq f47GOk (λN X K=>f47t0 N X.1 K) (by kernel_rfl) λX hb hp=>by obtain⟨a,_⟩:=X;obtain⟨N,h⟩:=h a hb.1 hp;exact⟨N,Eq.trans (by kernel_rfl) (h N (Nat.le_refl N))⟩
def e47ok:av Tryz.prog 47 BP:=f47ok dw.ok
def Kq:aW:=⟨[⟨.pair (.int .i64) (.pair (.int .i64) (.sl 3 (.int .i64))),true,false⟩,⟨.int .i64,false,false⟩],[⟨.pair (.int .i64) (.pair (.int .i64) (.sl 3 (.int .i64))),true,false⟩]⟩
def BR:aK:=⟨Kq,(some λX=>bP.P X.1 X.2.1),λX=>((),((bP.g X.1 X.2.1),()))⟩
def Kr:Gm:=aD (aD bi 69 s0) 83 ml
def f92GOk:aw Tryz.prog Kr:=((aw.nil).add Bt (by kernel_rfl)).add qc (by kernel_rfl)
def f92lE:ab:=⟨[],[],[],[],[]⟩
def f92s0(a:MT)(b:Int):St:=be Kq.ps (a,(b,()))
def Ks(a b c:Int)(d:LI)(e f:Int):St:=af [(1,xi a),(2,xb 2),(4,xb 4)] [(2,(27,[yi b,yi c,.sn 3 tI d none])),(4,(27,[yi e,yi f,.nil]))] []
def f92l1:ab:=⟨[1,2,4],[2,4],[],[],[]⟩
def Kt(a:LI)(b c d:Int)(e:LI)(f g h i:Int):St:=af [(1,xi b),(2,xb 2),(4,xb 4),(5,xb 5)] [(2,(27,[yi c,yi d,.sn 3 tI e none])),(4,(27,[yi f,yi g,.nil])),(5,(27,[yi h,yi i,.own 20000322]))] [(20000322,(⟨3,.int .i64,a,true,false⟩:ac))]
def f92l2:ab:=⟨[1,2,4,5],[2,4,5],[],[],[(⟨true,5,2⟩,20000322)]⟩
def iK(a:LI)(b c d e:Int)(f:LI)(g h i j:Int):St:=af [(1,xi b),(2,xb 2),(4,xb 4),(5,xb 5),(6,xi c)] [(2,(27,[yi d,yi e,.sn 3 tI f none])),(4,(27,[yi g,yi h,.nil])),(5,(27,[yi i,yi j,.own 20000322]))] [(20000322,(⟨3,.int .i64,a,true,false⟩:ac))]
def mw:ab:=⟨[1,2,4,5,6],[2,4,5],[],[],[(⟨true,5,2⟩,20000322)]⟩
def ku(a:LI)(b c d e f:Int)(g:LI)(h i j l:Int):St:=af [(1,xi b),(2,xb 2),(4,xb 4),(5,xb 5),(6,xi c),(7,xi d)] [(2,(27,[yi e,yi f,.sn 3 tI g none])),(4,(27,[yi h,yi i,.nil])),(5,(27,[yi j,yi l,.own 20000322]))] [(20000322,(⟨3,.int .i64,a,true,false⟩:ac))]
def my:ab:=⟨[1,2,4,5,6,7],[2,4,5],[],[],[(⟨true,5,2⟩,20000322)]⟩
def Ku(a:LI)(b d e f g h:Int)(i:LI)(j l m o:Int):St:=af [(1,xi b),(2,xb 2),(4,xb 4),(5,xb 5),(6,xi d),(7,xi e),(8,.c (.elt 20000322 f 0))] [(2,(27,[yi g,yi h,.sn 3 tI i none])),(4,(27,[yi j,yi l,.nil])),(5,(27,[yi m,yi o,.own 20000322]))] [(20000322,(⟨3,.int .i64,a,true,false⟩:ac))]
def f92l5:ab:=⟨[1,2,4,5,6,7,8],[2,4,5],[],[],[(⟨true,5,2⟩,20000322)]⟩
def Kv(a:LI)(b d e f g h i j:Int)(l:LI)(m o p q:Int):St:=af [(1,xi b),(2,xb 2),(4,xb 4),(5,xb 5),(6,xi d),(7,xi e),(8,.c (.elt 20000322 f 0)),(9,xi g),(10,xi h)] [(2,(27,[yi i,yi j,.sn 3 tI l none])),(4,(27,[yi m,yi o,.nil])),(5,(27,[yi p,yi q,.own 20000322]))] [(20000322,(⟨3,.int .i64,a,true,false⟩:ac))]
def f92l6:ab:=⟨[1,2,4,5,6,7,8,9,10],[2,4,5],[],[],[(⟨true,5,2⟩,20000322)]⟩
def Kw(a:LI)(b d e f g h:Int)(i:Bool)(j l:Int)(m:LI)(o p q r:Int):St:=af [(1,xi b),(2,xb 2),(4,xb 4),(5,xb 5),(6,xi d),(7,xi e),(8,.c (.elt 20000322 f 0)),(9,xi g),(10,xi h),(48,xB i)] [(2,(27,[yi j,yi l,.sn 3 tI m none])),(4,(27,[yi o,yi p,.nil])),(5,(27,[yi q,yi r,.own 20000322]))] [(20000322,(⟨3,.int .i64,a,true,false⟩:ac))]
def f92l7:ab:=⟨[1,2,4,5,6,7,8,9,10,48],[2,4,5],[],[],[(⟨true,5,2⟩,20000322)]⟩
def qq(a:LI)(b c d e:Int):St:=af [(4,xb 4),(5,xb 5)] [(4,(27,[yi b,yi c,.nil])),(5,(27,[yi d,yi e,.own 20000322]))] [(20000322,(⟨3,.int .i64,a,true,false⟩:ac))]
def BS:ab:=⟨[4,5],[4,5],[],[],[(⟨true,5,2⟩,20000322)]⟩
def f92s9(a:LI)(b c:Int):St:=af [(4,xb 4)] [(4,(27,[yi b,yi c,.own 20000258]))] [(20000258,(⟨3,.int .i64,a,true,false⟩:ac))]
def f92l9:ab:=⟨[4],[4],[],[],[(⟨true,4,2⟩,20000258)]⟩
def f92B:Nat->Option ab:=az [(4,my),(3,my),(2,mw),(1,mw),(0,BS),(1000000,f92l9)]
abbrev iL{J:Type}(N n:Nat)(U:St)(l:ab)(K:KT J):Option J:=an Kr bm f92B N (a8 99 (bn Tryz.f92) n) .n U (ay (some l) K)
def f92t1 N b a (K:KT J):iL N 2 (f92s0 b a) f92l1 K =
 bP.Z1 N b a (λa c d e f g=>K .nrm (Ks a c d e f g)):=by kernel_rfl
def f92t3 N a b c d e f (K:KT J):iL N 5 (Ks a b c d e f) f92l2 K =
 bP.Z3 N a b c d e f (λg a b c d e f h i=>K .nrm (Kt g a b c d e f h i)):=by kernel_rfl
def f92t6 N a b c d e f g h i (K:KT J):iL N 19 (Kt a b c d e f g h i) mw K =
 bP.Z6 N a b c d e f g h i (λa b j c d e f g h i=>K .nrm (iK a b j c d e f g h i)):=by kernel_rfl
def f92t10 N a f g h i j b c d e (K:KT J):iL N 139 (iK a f g h i j b c d e) mw K =
 bP.Z10 N a f g h i j b c d e (λa f g h i j b c d e=>K .nrm (iK a f g h i j b c d e)) (λa b c d e=>K (.exit 0) (qq a b c d e)):=by kernel_rfl
def f92t14 N a b c d e f g h i j (K:KT J):iL N 1099 (iK a b c d e f g h i j) my K =
 bP.Z14 N a b c d e f g h i j (λa b c l d e f g h i j=>K .nrm (ku a b c l d e f g h i j)):=by kernel_rfl
def f92t18 N a b c l d e f g h i j (K:KT J):iL N 8779 (ku a b c l d e f g h i j) my K =
 bP.Z18 N a b c l d e f g h i j (λa b c l d e f g h i j=>K .nrm (ku a b c l d e f g h i j)) (λa b c d e f g h i j=>K (.exit 2) (iK a b c d e f g h i j)):=by kernel_rfl
def f92t22 N a b c d e f g h i j l (K:KT J):iL N 70219 (ku a b c d e f g h i j l) f92l5 K =
 bP.Z22 N a b c d e f g h i j l (λa b c d m e f g h i j l=>K .nrm (Ku a b c d m e f g h i j l)):=by kernel_rfl
def f92t24 N a b c d e f g h i j l m (K:KT J):iL N 168523 (Ku a b c d e f g h i j l m) f92l6 K =
 bP.Z24 N a b c d e f g h i j l m (λa b c d e o p f g h i j l m=>K .nrm (Kv a b c d e o p f g h i j l m)):=by kernel_rfl
def f92t27 N a b c d e f g h i j l m o p (K:KT J):iL N 627275 (Kv a b c d e f g h i j l m o p) f92l7 K =
 bP.Z27 N a b c d e f g h i j l m o p (λa b c d e f g q h i j l m o p=>K .nrm (Kw a b c d e f g q h i j l m o p)):=by kernel_rfl
def f92t28 N a b c d m o p q e f g h i j l (K:KT J):iL N 889419 (Kw a b c d m o p q e f g h i j l) my K =
 bP.Z28 N a b c d m o p q e f g h i j l (λa b c d e f g h i j l=>K .nrm (ku a b c d e f g h i j l)):=by kernel_rfl
def f92t26 N a b c d e f g h i j l m o p (K:KT J):=vQ (λk=>bP.Z27 N a b c d e f g h i j l m o p k) (f92t27 N a b c d e f g h i j l m o p _) (NK λa b c d e f g q h i j l m o p=>f92t28 N a b c d e f g q h i j l m o p K)
def f92t25 N a b c d m o p e f g h i j l (K:KT J):=vB 4 my K (bP.Z25 N a b c d m o p e f g h i j l (λa b c d e f g h i j l=>K .nrm (ku a b c d e f g h i j l))) (f92t26 N a b c d m o p e f g h i j l _) (by kernel_rfl)
def f92t23 N a b c d e f g h i j l m (K:KT J):=vQ (λk=>bP.Z24 N a b c d e f g h i j l m k) (f92t24 N a b c d e f g h i j l m _) (uA λa b c d e o p f g h i j l m=>f92t25 N a b c d e o p f g h i j l m K)
def f92t21 N a b c d e f g h i j l (K:KT J):=vQ (λk=>bP.Z22 N a b c d e f g h i j l k) (f92t22 N a b c d e f g h i j l _) (j0 λa b c d m e f g h i j l=>f92t23 N a b c d m e f g h i j l K)
def f92t20 N a b c d e f g h i j l (K:KT J):=vB 3 my K (bP.Z20 N a b c d e f g h i j l (λa b c d e f g h i j l=>K .nrm (ku a b c d e f g h i j l))) (f92t21 N a b c d e f g h i j l _) (by kernel_rfl)
def f92t29 N a b c d e f g h i j l (K:KT J):iL N 29259 (ku a b c d e f g h i j l) my K =
 bP.Z29 N a b c d e f g h i j l (λa b c d e f g h i j l=>K .nrm (ku a b c d e f g h i j l)):=by kernel_rfl
def f92t19 N a b c d e f g h i j l (K:KT J):=vQ (λk=>bP.Z20 N a b c d e f g h i j l k) (f92t20 N a b c d e f g h i j l _) (fE λa b c d e f g h i j l=>f92t29 N a b c d e f g h i j l K)
def f92t17 N a b c l d e f g h i j (K:KT J):=vQ (λk=>bP.Z18 N a b c l d e f g h i j k (λa b c d e f g h i j=>K (.exit 2) (iK a b c d e f g h i j))) (f92t18 N a b c l d e f g h i j _) (fE λa b c l d e f g h i j=>f92t19 N a b c l d e f g h i j K)
def f92t16L N (K:KT J):=oZ K (bP.Z16L N (λa b c d e f g h i j=>K (.exit 2) (iK a b c d e f g h i j))) (λa b c l d e f g h i j k=>bP.Z17 N a b c l d e f g h i j k (λa b c d e f g h i j=>K (.exit 2) (iK a b c d e f g h i j))) (λF a b c l d e f g h i j=>f92t17 N a b c l d e f g h i j _) (by kernel_rfl)
def f92t16 N a b c d e f g h i j l (K:KT J):=vL (ku a b c d e f g h i j l) (f92t16L N (jK mw K) N a b c d e f g h i j l) (by kernel_rfl)
def f92t15 N a b c l d e f g h i j (K:KT J):=vB 2 mw K (bP.Z15 N a b c l d e f g h i j (λa b c d e f g h i j=>K .nrm (iK a b c d e f g h i j))) (f92t16 N a b c l d e f g h i j _) (by kernel_rfl)
def f92t13 N a b c d e f g h i j (K:KT J):=vQ (λk=>bP.Z14 N a b c d e f g h i j k) (f92t14 N a b c d e f g h i j _) (fE λa b c l d e f g h i j=>f92t15 N a b c l d e f g h i j K)
def f92t12 N a b c d e f g h i j (K:KT J):=vB 1 mw K (bP.Z12 N a b c d e f g h i j (λa b c d e f g h i j=>K .nrm (iK a b c d e f g h i j))) (f92t13 N a b c d e f g h i j _) (by kernel_rfl)
def f92t30 N a b c d e f g h i j (K:KT J):iL N 459 (iK a b c d e f g h i j) mw K =
 bP.Z30 N a b c d e f g h i j (λa b c d e f g h i j=>K .nrm (iK a b c d e f g h i j)):=by kernel_rfl
def f92t11 N a b c d e f g h i j (K:KT J):=vQ (λk=>bP.Z12 N a b c d e f g h i j k) (f92t12 N a b c d e f g h i j _) (cJ λa b c d e f g h i j=>f92t30 N a b c d e f g h i j K)
def f92t9 N a f g h i j b c d e (K:KT J):=vQ (λk=>bP.Z10 N a f g h i j b c d e k (λa b c d e=>K (.exit 0) (qq a b c d e))) (f92t10 N a f g h i j b c d e _) (cJ λa f g h i j b c d e=>f92t11 N a f g h i j b c d e K)
def f92t8L N (K:KT J):=kP K (bP.Z8L N (λa b c d e=>K (.exit 0) (qq a b c d e))) (λa f g h i j b c d e k=>bP.Z9 N a f g h i j b c d e k (λa b c d e=>K (.exit 0) (qq a b c d e))) (λF a f g h i j b c d e=>f92t9 N a f g h i j b c d e _) (by kernel_rfl)
def f92t8 N a b c d e f g h i j (K:KT J):=vL (iK a b c d e f g h i j) (f92t8L N (jK BS K) N a b c d e f g h i j) (by kernel_rfl)
def f92t7 N a f g h i j b c d e (K:KT J):=vB 0 BS K (bP.Z7 N a f g h i j b c d e (λa b c d e=>K .nrm (qq a b c d e))) (f92t8 N a f g h i j b c d e _) (by kernel_rfl)
def f92t5 N a b c d e f g h i (K:KT J):=vQ (λk=>bP.Z6 N a b c d e f g h i k) (f92t6 N a b c d e f g h i _) (cJ λa b j c d e f g h i=>f92t7 N a b j c d e f g h i K)
def f92t31 N c a b d e (K:KT J):iL N 15 (qq c a b d e) f92lE K =
 bP.Z31 N c a b d e (λf a b=>K .ret (f92s9 f a b)):=by kernel_rfl
def f92t4 N a f g h i b c d e (K:KT J):=vQ (λk=>bP.Z5 N a f g h i b c d e k) (f92t5 N a f g h i b c d e _) (bO λa b c d e=>f92t31 N a b c d e K)
def f92t2 N a b c d e f (K:KT J):=vQ (λk=>bP.Z3 N a b c d e f k) (f92t3 N a b c d e f _) (c6 λg a b c d e f h i=>f92t4 N g a b c d e f h i K)
def f92t0 N b a (K:KT J):=vQ (λk=>bP.Z1 N b a k) (f92t1 N b a _) (cC λa c d e f g=>f92t2 N a c d e f g K)
def f92ok(h:bP.Spec):av Tryz.prog 92 BR :=
 bu Tryz.func92 bq f92GOk (λN X K=>f92t0 N X.1 X.2.1 K) (by kernel_rfl) λX hb hp=>by obtain⟨a,b,_⟩:=X;obtain⟨N,h⟩:=h a b hb.1 hp;exact⟨N,Eq.trans (by kernel_rfl) (h N (Nat.le_refl N))⟩
def e92ok:av Tryz.prog 92 BR:=f92ok bP.ok
def Kx:aW:=⟨[⟨.pair (.int .i64) (.pair (.int .i64) (.sl 3 (.int .i64))),true,false⟩,⟨.int .i64,false,false⟩],[⟨.pair (.int .i64) (.pair (.int .i64) (.sl 3 (.int .i64))),true,false⟩,⟨.bool,false,false⟩]⟩
def BT:aK:=⟨Kx,none,λX=>((),((f7.g X.1 X.2.1).1,((f7.g X.1 X.2.1).2,())))⟩
def Ky:Gm:=aD (aD (aD bi 63 n7) 91 qa) 92 BR
def f48GOk:aw Tryz.prog Ky:=(((aw.nil).add sZ (by kernel_rfl)).add wd (by kernel_rfl)).add e92ok (by kernel_rfl)
def f48lE:ab:=⟨[],[],[],[],[]⟩
def f48s0(a:MT)(b:Int):St:=be Kx.ps (a,(b,()))
def f48s1(a:LI)(b:Bool)(c d:Int):St:=af [(4,xb 4),(5,xB b)] [(4,(27,[yi c,yi d,.own 20000258]))] [(20000258,(⟨3,.int .i64,a,true,false⟩:ac))]
def f48l1:ab:=⟨[4,5],[4],[⟨⟨true,4,2⟩,30000000,3,.int .i64,true⟩],[],[(⟨true,4,2⟩,20000258)]⟩
def f48B:Nat->Option ab:=az [(1000000,f48l1)]
abbrev f48j{J:Type}(N n:Nat)(U:St)(l:ab)(K:KT J):Option J:=an Ky bm f48B N (a8 99 (bn Tryz.f48) n) .n U (ay (some l) K)
def f48t0 N a b (K:KT J):f48j N 1 (f48s0 a b) f48lE K =
 f7.Z0 N a b (λc d e f=>K .ret (f48s1 c d e f)):=by kernel_rfl
def f48ok(h:f7.Spec):av Tryz.prog 48 BT :=
 bu Tryz.func48 bq f48GOk (λN X K=>f48t0 N X.1 X.2.1 K) (by kernel_rfl) λX hb hp=>by obtain⟨a,b,_⟩:=X;obtain⟨N,h⟩:=h a b hb.1;exact⟨N,Eq.trans (by kernel_rfl) (h N (Nat.le_refl N))⟩
def e48ok:av Tryz.prog 48 BT:=f48ok f7.ok
end Go.Fw
namespace Go.Fw
variable {J : Type}
open Go.Proofs
variable [DC]
def Kz:aW:=⟨[⟨.pair (.int .i64) (.pair (.int .i64) (.sl 3 (.int .i64))),true,false⟩,⟨.pair (.int .i64) (.pair (.int .i64) (.sl 3 (.int .i64))),true,false⟩],[⟨.int .i64,false,false⟩]⟩
def KA:aK:=⟨Kz,none,λX=>((),((od.g X.1 X.2.1),()))⟩
def KB:Gm:=aD bi 51 wB
def f50GOk:aw Tryz.prog KB:=(aw.nil).add J8 (by kernel_rfl)
def f50lE:ab:=⟨[],[],[],[],[]⟩
def f50s0(a b:MT):St:=be Kz.ps (a,(b,()))
def f50s1(a:Int):St:=af [(4,xi a)] [] []
def f50l1:ab:=⟨[4],[],[],[],[]⟩
def f50B:Nat->Option ab:=az [(1000000,f50l1)]
abbrev f50j{J:Type}(N n:Nat)(U:St)(l:ab)(K:KT J):Option J:=an KB bm f50B N (a8 99 (bn Tryz.f50) n) .n U (ay (some l) K)
def f50t0 N a b (K:KT J):f50j N 1 (f50s0 a b) f50lE K =
 od.Z0 N a b (λc=>K .ret (f50s1 c)):=by kernel_rfl
def f50ok(h:od.Spec):av Tryz.prog 50 KA :=
 bu Tryz.func50 bq f50GOk (λN X K=>f50t0 N X.1 X.2.1 K) (by kernel_rfl) λX hb hp=>by obtain⟨a,b,_⟩:=X;obtain⟨N,h⟩:=h a b hb.1 hb.2.1;exact⟨N,Eq.trans (by kernel_rfl) (h N (Nat.le_refl N))⟩
def e50ok:av Tryz.prog 50 KA:=f50ok od.ok
end Go.Fw
namespace Go.Fw
variable {J : Type}
open Go.Proofs
def f49sig:aW:=⟨[⟨.sl 27 (.pair (.int .i64) (.pair (.int .i64) (.sl 3 (.int .i64)))),false,true⟩,⟨.fnc 50,false,false⟩],[]⟩
def BU:aK:=⟨f49sig,(some λX=>jU.P X.1 X.2.1),λX=>((jU.g X.1 X.2.1),())⟩
def z02:Go.Shelf.Ren:=⟨λ|6=>49|15=>94|14=>93|28=>130|29=>131|20=>122|21=>123|22=>124|23=>125|24=>126|25=>127|26=>128|27=>129|46=>160|47=>161|48=>162|49=>163|50=>164|57=>184|n=>n,λ|22=>31|24=>27|25=>63|3=>3|39=>96|0=>0|53=>130|55=>132|4=>4|46=>123|45=>122|50=>127|5=>5|9=>9|66=>150|70=>120|76=>173|77=>174|n=>n,λn=>n⟩
def f49lay:SlLaysF0.n6 Tryz.prog z02:={ mixed:=(by kernel_rfl),f6:=⟨Tryz.f49.name,(by kernel_rfl),Tryz.func49.trans (congrArg some (by kernel_rfl))⟩,f14:=⟨Tryz.f93.name,(by kernel_rfl),Tryz.func93.trans (congrArg some (by kernel_rfl))⟩,f15:=Tryz.func94.trans (congrArg some (by kernel_rfl)),f20:=⟨Tryz.f122.name,(by kernel_rfl),Tryz.func122.trans (congrArg some (by kernel_rfl))⟩,f21:=⟨Tryz.f123.name,(by kernel_rfl),Tryz.func123.trans (congrArg some (by kernel_rfl))⟩,f22:=⟨Tryz.f124.name,(by kernel_rfl),Tryz.func124.trans (congrArg some (by kernel_rfl))⟩,f23:=⟨Tryz.f125.name,(by kernel_rfl),Tryz.func125.trans (congrArg some (by kernel_rfl))⟩,f24:=⟨Tryz.f126.name,(by kernel_rfl),Tryz.func126.trans (congrArg some (by kernel_rfl))⟩,f25:=⟨Tryz.f127.name,(by kernel_rfl),Tryz.func127.trans (congrArg some (by kernel_rfl))⟩,f26:=⟨Tryz.f128.name,(by kernel_rfl),Tryz.func128.trans (congrArg some (by kernel_rfl))⟩,f27:=⟨Tryz.f129.name,(by kernel_rfl),Tryz.func129.trans (congrArg some (by kernel_rfl))⟩,f28:=Tryz.func130.trans (congrArg some (by kernel_rfl)),f29:=Tryz.func131.trans (congrArg some (by kernel_rfl)),f46:=⟨Tryz.f160.name,(by kernel_rfl),Tryz.func160.trans (congrArg some (by kernel_rfl))⟩,f47:=Tryz.func161.trans (congrArg some (by kernel_rfl)),f48:=Tryz.func162.trans (congrArg some (by kernel_rfl)),f49:=⟨Tryz.f163.name,(by kernel_rfl),Tryz.func163.trans (congrArg some (by kernel_rfl))⟩,f50:=⟨Tryz.f164.name,(by kernel_rfl),Tryz.func164.trans (congrArg some (by kernel_rfl))⟩,f57:=⟨Tryz.f184.name,(by kernel_rfl),Tryz.func184.trans (congrArg some (by kernel_rfl))⟩,t0:=Tryz.underlying0,a0:=Tryz.isAgg0,z0:=Tryz.sizeOf0,v0:=Tryz.zeroValue0,t3:=Tryz.underlying3,a3:=Tryz.isAgg3,z3:=Tryz.sizeOf3,v3:=Tryz.zeroValue3,t4:=Tryz.underlying4,a4:=Tryz.isAgg4,z4:=Tryz.sizeOf4,v4:=Tryz.zeroValue4,t5:=Tryz.underlying5,a5:=Tryz.isAgg5,z5:=Tryz.sizeOf5,v5:=Tryz.zeroValue5,t9:=Tryz.underlying9,a9:=Tryz.isAgg9,z9:=Tryz.sizeOf9,v9:=Tryz.zeroValue9,t22:=Tryz.underlying31,a22:=Tryz.isAgg31,z22:=Tryz.sizeOf31,v22:=Tryz.zeroValue31,t25:=Tryz.underlying63,a25:=Tryz.isAgg63,z25:=Tryz.sizeOf63,v25:=Tryz.zeroValue63,t39:=Tryz.underlying96,a39:=Tryz.isAgg96,z39:=Tryz.sizeOf96,v39:=Tryz.zeroValue96,t45:=Tryz.underlying122,a45:=Tryz.isAgg122,z45:=Tryz.sizeOf122,v45:=Tryz.zeroValue122,t46:=Tryz.underlying123,a46:=Tryz.isAgg123,z46:=Tryz.sizeOf123,v46:=Tryz.zeroValue123,t50:=Tryz.underlying127,a50:=Tryz.isAgg127,z50:=Tryz.sizeOf127,v50:=Tryz.zeroValue127,t53:=Tryz.underlying130,a53:=Tryz.isAgg130,z53:=Tryz.sizeOf130,v53:=Tryz.zeroValue130,t55:=Tryz.underlying132,a55:=Tryz.isAgg132,z55:=Tryz.sizeOf132,v55:=Tryz.zeroValue132,t66:=Tryz.underlying150,a66:=Tryz.isAgg150,z66:=Tryz.sizeOf150,v66:=Tryz.zeroValue150,t70:=Tryz.underlying120,a70:=Tryz.isAgg120,z70:=Tryz.sizeOf120,v70:=Tryz.zeroValue120,t76:=Tryz.underlying173,a76:=Tryz.isAgg173,z76:=Tryz.sizeOf173,v76:=Tryz.zeroValue173,t77:=Tryz.underlying174,a77:=Tryz.isAgg174,z77:=Tryz.sizeOf174,v77:=Tryz.zeroValue174 }
def f49ok(_:True):av Tryz.prog 49 BU:=On (t:=.pair (.int .i64) (.pair (.int .i64) (.sl 3 (.int .i64)))) (e:=27) f49lay (c:=50) (0,(0,[])) Tryz.isAgg27 Tryz.sizeOf27 z7 (@e50ok DC.tt) (by
 have h2:¬ Tryz.f50.body=none:=by
  intro h;have:Tryz.f50.body.isSome=true:=by kernel_rfl
  rw[h]at this;cases this
 have h1 : ¬ Tryz.f50.name = "runtime.NumGoroutine" := by decide +kernel
 intro args w;simp[callFunc,Tryz.func50,h1,h2])
def e49ok:av Tryz.prog 49 BU:=f49ok jU.ok
def KC:aW:=⟨[⟨.pair (.int .i64) (.pair (.int .i64) (.sl 3 (.int .i64))),true,false⟩],[⟨.sl 27 (.pair (.int .i64) (.pair (.int .i64) (.sl 3 (.int .i64)))),false,false⟩,⟨.bool,false,false⟩]⟩
def BV:aK:=⟨KC,none,λX=>((),((cv.g X.1).1,((cv.g X.1).2,())))⟩
def KD:Gm:=aD (aD (aD (aD bi 34 BJ) 47 BP) 48 BT) 49 BU
def f15GOk:aw Tryz.prog KD:=((((aw.nil).add e34ok (by kernel_rfl)).add e47ok (by kernel_rfl)).add e48ok (by kernel_rfl)).add e49ok (by kernel_rfl)
def f15lE:ab:=⟨[],[],[],[],[]⟩
def f15s0(a:MT):St:=be KC.ps (a,())
def KE(a b:Int)(c:LI):St:=af [(1,xb 1)] [(1,(27,[yi a,yi b,.sn 3 tI c none]))] []
def f15l1:ab:=⟨[1],[1],[],[],[]⟩
def KF(a:LI)(b:Bool)(c d:Int)(e:LI)(f g:Int):St:=af [(1,xb 1),(4,xb 4),(5,xB b)] [(1,(27,[yi c,yi d,.sn 3 tI e none])),(4,(27,[yi f,yi g,.own 20000258]))] [(20000258,(⟨3,.int .i64,a,true,false⟩:ac))]
def f15l2:ab:=⟨[1,4,5],[1,4],[],[],[(⟨true,4,2⟩,20000258)]⟩
def KG(a:LI)(b c:Int)(d:LI)(e f:Int):St:=af [(1,xb 1),(4,xb 4)] [(1,(27,[yi b,yi c,.sn 3 tI d none])),(4,(27,[yi e,yi f,.own 20000258]))] [(20000258,(⟨3,.int .i64,a,true,false⟩:ac))]
def f15l3:ab:=⟨[1,4],[1,4],[],[],[(⟨true,4,2⟩,20000258)]⟩
def KH(a:LM)(b c:Int)(d:LI)(e f:Int)(g:LI):St:=af [(1,xb 1),(4,xb 4),(6,xo 1000384)] [(1,(27,[yi b,yi c,.sn 3 tI d none])),(4,(27,[yi e,yi f,.sn 3 tI g (some 1000384)]))] [(1000384,(⟨27,tM 3,a,true,false⟩:ac))]
def f15l4:ab:=⟨[1,4,6],[1,4],[],[],[(⟨false,6,0⟩,1000384)]⟩
def KI(a:LM)(b d:Int)(e:LI)(f:List ByteArray):St:=af [(1,xb 1),(6,xo 1000384),(7,.c (.mp 24))] [(1,(27,[yi b,yi d,.sn 3 tI e none])),(24,(1000000059,[.mset (.str) f]))] [(1000384,(⟨27,tM 3,a,true,false⟩:ac))]
def f15l5:ab:=⟨[1,6,7],[1,24],[],[],[(⟨false,6,0⟩,1000384)]⟩
def jm(a:LM)(b d e:Int)(f:LI)(g:List ByteArray):St:=af [(1,xb 1),(6,xo 1000384),(7,.c (.mp 24)),(8,xi b)] [(1,(27,[yi d,yi e,.sn 3 tI f none])),(24,(1000000059,[.mset (.str) g]))] [(1000384,(⟨27,tM 3,a,true,false⟩:ac))]
def mz:ab:=⟨[1,6,7,8],[1,24],[],[],[(⟨false,6,0⟩,1000384)]⟩
def wI(a:LM)(b d e f:Int)(g:LI)(h:List ByteArray):St:=af [(1,xb 1),(6,xo 1000384),(7,.c (.mp 24)),(8,xi b),(9,xi d)] [(1,(27,[yi e,yi f,.sn 3 tI g none])),(24,(1000000059,[.mset (.str) h]))] [(1000384,(⟨27,tM 3,a,true,false⟩:ac))]
def KJ:ab:=⟨[1,6,7,8,9],[1,24],[],[],[(⟨false,6,0⟩,1000384)]⟩
def qr(a:LM):St:=af [(6,xo 1000384)] [] [(1000384,(⟨27,tM 3,a,true,false⟩:ac))]
def BW:ab:=⟨[6],[],[],[],[(⟨false,6,0⟩,1000384)]⟩
def iM(a:LM)(b:Bool):St:=af [(2,xo 1000128),(3,xB b)] [] [(1000128,(⟨27,tM 3,a,true,false⟩:ac))]
def f15l9:ab:=⟨[2,3],[],[⟨⟨false,2,0⟩,30000000,27,.pair (.int .i64) (.pair (.int .i64) (.sl 3 (.int .i64))),true⟩],[],[(⟨false,2,0⟩,1000128)]⟩
def f15B:Nat->Option ab:=az [(2,mz),(1,mz),(0,BW),(1000000,f15l9)]
abbrev jN{J:Type}(N n:Nat)(U:St)(l:ab)(K:KT J):Option J:=an KD bm f15B N (a8 99 (bn Tryz.f15) n) .n U (ay (some l) K)
def f15t1 N a (K:KT J):jN N 2 (f15s0 a) f15l1 K =
 cv.Z1 N a (λb c d=>K .nrm (KE b c d)):=by kernel_rfl
def f15t3 N a b c (K:KT J):jN N 5 (KE a b c) f15l2 K =
 cv.Z3 N a b c (λd e a b c f g=>K .nrm (KF d e a b c f g)):=by kernel_rfl
def f15t5 N a g b c d e f (K:KT J):jN N 11 (KF a g b c d e f) f15l3 K =
 cv.Z5 N a g b c d e f (λa b c d e f=>K .nrm (KG a b c d e f)) (λh i=>K .ret (iM h i)):=by kernel_rfl
def f15t7 N a b c d e f (K:KT J):jN N 23 (KG a b c d e f) f15l4 K =
 cv.Z7 N a b c d e f (λg b c d e f a=>K .nrm (KH g b c d e f a)):=by kernel_rfl
def f15t9 N a b c d e f g (K:KT J):jN N 47 (KH a b c d e f g) f15l5 K =
 cv.Z9 N a b c d e f g (λa b c d h=>K .nrm (KI a b c d h)):=by kernel_rfl
def f15t12 N a b c d e (K:KT J):jN N 159 (KI a b c d e) mz K =
 cv.Z12 N a b c d e (λa f b c d e=>K .nrm (jm a f b c d e)):=by kernel_rfl
def f15t16 N a b c d e f (K:KT J):jN N 1119 (jm a b c d e f) mz K =
 cv.Z16 N a b c d e f (λa b c d e f=>K .nrm (jm a b c d e f)) (λa=>K (.exit 0) (qr a)):=by kernel_rfl
def f15t20 N a b c d e f (K:KT J):jN N 8799 (jm a b c d e f) KJ K =
 cv.Z20 N a b c d e f (λa b g c d e f=>K .nrm (wI a b g c d e f)):=by kernel_rfl
def f15t23 N a b g c d e f (K:KT J):jN N 37471 (wI a b g c d e f) KJ K =
 cv.Z23 N a b g c d e f (λa b g c d e f=>K .nrm (wI a b g c d e f)) (λa b c d e f=>K (.exit 2) (jm a b c d e f)) (λh i=>K .ret (iM h i)):=by kernel_rfl
def f15t22L N (K:KT J):=nB K (cv.Z22L N (λa b c d e f=>K (.exit 2) (jm a b c d e f)) (λg h=>K .ret (iM g h))) (λa b i c d e f k=>cv.Z23 N a b i c d e f k (λa b c d e f=>K (.exit 2) (jm a b c d e f)) (λg h=>K .ret (iM g h))) (λF a b i c d e f=>f15t23 N a b i c d e f _) (by kernel_rfl)
def f15t22 N a b c d e f g (K:KT J):=vL (wI a b c d e f g) (f15t22L N (jK mz K) N a b c d e f g) (by kernel_rfl)
def f15t21 N a b g c d e f (K:KT J):=vB 2 mz K (cv.Z21 N a b g c d e f (λa b c d e f=>K .nrm (jm a b c d e f)) (λh i=>K .ret (iM h i))) (f15t22 N a b g c d e f _) (by kernel_rfl)
def f15t19 N a b c d e f (K:KT J):=vQ (λk=>cv.Z20 N a b c d e f k) (f15t20 N a b c d e f _) (eC λa b g c d e f=>f15t21 N a b g c d e f K)
def f15t18 N a b c d e f (K:KT J):=vB 1 mz K (cv.Z18 N a b c d e f (λa b c d e f=>K .nrm (jm a b c d e f)) (λg h=>K .ret (iM g h))) (f15t19 N a b c d e f _) (by kernel_rfl)
def f15t24 N a b c d e f (K:KT J):jN N 3679 (jm a b c d e f) mz K =
 cv.Z24 N a b c d e f (λa b c d e f=>K .nrm (jm a b c d e f)):=by kernel_rfl
def f15t17 N a b c d e f (K:KT J):=vQ (λk=>cv.Z18 N a b c d e f k (λg h=>K .ret (iM g h))) (f15t18 N a b c d e f _) (cC λa b c d e f=>f15t24 N a b c d e f K)
def f15t15 N a b c d e f (K:KT J):=vQ (λk=>cv.Z16 N a b c d e f k (λa=>K (.exit 0) (qr a))) (f15t16 N a b c d e f _) (cC λa b c d e f=>f15t17 N a b c d e f K)
def f15t14L N (K:KT J):=iV K (cv.Z14L N (λa=>K (.exit 0) (qr a)) (λb c=>K .ret (iM b c))) (λa d e f g h k=>cv.Z15 N a d e f g h k (λa=>K (.exit 0) (qr a)) (λb c=>K .ret (iM b c))) (λF a d e f g h=>f15t15 N a d e f g h _) (by kernel_rfl)
def f15t14 N a b c d e f (K:KT J):=vL (jm a b c d e f) (f15t14L N (jK BW K) N a b c d e f) (by kernel_rfl)
def f15t13 N a b c d e f (K:KT J):=vB 0 BW K (cv.Z13 N a b c d e f (λa=>K .nrm (qr a)) (λg h=>K .ret (iM g h))) (f15t14 N a b c d e f _) (by kernel_rfl)
def f15t11 N a b c d e (K:KT J):=vQ (λk=>cv.Z12 N a b c d e k) (f15t12 N a b c d e _) (cC λa f b c d e=>f15t13 N a f b c d e K)
def f15t25 N a (K:KT J):jN N 127 (qr a) f15lE K =
 cv.Z25 N a (λb c=>K .ret (iM b c)):=by kernel_rfl
def f15t10 N a b c d e (K:KT J):=vQ (λk=>cv.Z11 N a b c d e k (λf g=>K .ret (iM f g))) (f15t11 N a b c d e _) (funext λa=>f15t25 N a K)
def f15t8 N a b c d e f g (K:KT J):=vQ (λk=>cv.Z9 N a b c d e f g k) (f15t9 N a b c d e f g _) (bO λa b c d h=>f15t10 N a b c d h K)
def f15t6 N a b c d e f (K:KT J):=vQ (λk=>cv.Z7 N a b c d e f k) (f15t7 N a b c d e f _) (eC λg b c d e f a=>f15t8 N g b c d e f a K)
def f15t4 N a g b c d e f (K:KT J):=vQ (λk=>cv.Z5 N a g b c d e f k (λh i=>K .ret (iM h i))) (f15t5 N a g b c d e f _) (cC λa b c d e f=>f15t6 N a b c d e f K)
def f15t2 N a b c (K:KT J):=vQ (λk=>cv.Z3 N a b c k) (f15t3 N a b c _) (eC λd e a b c f g=>f15t4 N d e a b c f g K)
def f15t0 N a (K:KT J):=vQ (λk=>cv.Z1 N a k) (f15t1 N a _) (bZ λb c d=>f15t2 N b c d K)
def f15ok(h:cv.Spec):av Tryz.prog 15 BV :=
 bu Tryz.func15 bq f15GOk (λN X K=>f15t0 N X.1 K) (by kernel_rfl) λX hb hp=>by obtain⟨a,_⟩:=X;obtain⟨N,h⟩:=h a hb.1;exact⟨N,Eq.trans (by kernel_rfl) (h N (Nat.le_refl N))⟩
def e15ok:av Tryz.prog 15 BV:=f15ok cv.ok
def KK:aW:=⟨[⟨.pair (.int .i64) (.pair (.int .i64) (.sl 3 (.int .i64))),true,false⟩],[⟨.sl 27 (.pair (.int .i64) (.pair (.int .i64) (.sl 3 (.int .i64)))),false,false⟩,⟨.bool,false,false⟩]⟩
def BX:aK:=⟨KK,none,λX=>((),((bS.g X.1).1,((bS.g X.1).2,())))⟩
def KL:Gm:=aD (aD (aD bi 15 BV) 31 Bu) 83 ml
def f42GOk:aw Tryz.prog KL:=(((aw.nil).add e15ok (by kernel_rfl)).add e31ok (by kernel_rfl)).add qc (by kernel_rfl)
def f42lE:ab:=⟨[],[],[],[],[]⟩
def f42s0(a:MT):St:=be KK.ps (a,())
def KM(a b:Int)(c:LI):St:=af [(1,xb 1)] [(1,(27,[yi a,yi b,.sn 3 tI c none]))] []
def f42l1:ab:=⟨[1],[1],[],[],[]⟩
def KN(a:LM)(b:Bool):St:=af [(4,xo 1000256),(5,xB b)] [] [(1000256,(⟨27,tM 3,a,true,false⟩:ac))]
def f42l2:ab:=⟨[4,5],[],[],[],[(⟨false,4,0⟩,1000256)]⟩
def mA(a:LM):St:=af [(4,xo 1000256)] [] [(1000256,(⟨27,tM 3,a,true,false⟩:ac))]
def wJ:ab:=⟨[4],[],[],[],[(⟨false,4,0⟩,1000256)]⟩
def iN(a:LM)(b c:Int):St:=af [(4,xo 1000256),(18,xo 1000256),(19,xi b),(20,xi c)] [] [(1000256,(⟨27,tM 3,a,true,false⟩:ac))]
def mB:ab:=⟨[4,18,19,20],[],[],[],[(⟨false,4,0⟩,1000256)]⟩
def KO(a:LM)(b c:Int)(d:Bool):St:=af [(4,xo 1000256),(18,xo 1000256),(19,xi b),(20,xi c),(21,xB d)] [] [(1000256,(⟨27,tM 3,a,true,false⟩:ac))]
def f42l5:ab:=⟨[4,18,19,20,21],[],[],[],[(⟨false,4,0⟩,1000256)]⟩
def KP(a:LM)(b c d e:Int)(f:LI):St:=af [(4,xo 1000256),(7,xb 7),(18,xo 1000256),(19,xi b),(20,xi c)] [(7,(27,[yi d,yi e,.sn 3 tI f (some 1000256)]))] [(1000256,(⟨27,tM 3,a,true,false⟩:ac))]
def f42l6:ab:=⟨[4,7,18,19,20],[7],[],[],[(⟨false,4,0⟩,1000256)]⟩
def jn(a:LM)(b c d e f:Int)(g:LI):St:=af [(4,xo 1000256),(7,xb 7),(8,xi b),(18,xo 1000256),(19,xi c),(20,xi d)] [(7,(27,[yi e,yi f,.sn 3 tI g (some 1000256)]))] [(1000256,(⟨27,tM 3,a,true,false⟩:ac))]
def mC:ab:=⟨[4,7,8,18,19,20],[7],[],[],[(⟨false,4,0⟩,1000256)]⟩
def wK(a:LM)(b c d e f g:Int)(h:LI):St:=af [(4,xo 1000256),(7,xb 7),(8,xi b),(9,xi c),(18,xo 1000256),(19,xi d),(20,xi e)] [(7,(27,[yi f,yi g,.sn 3 tI h (some 1000256)]))] [(1000256,(⟨27,tM 3,a,true,false⟩:ac))]
def KQ:ab:=⟨[4,7,8,9,18,19,20],[7],[],[],[(⟨false,4,0⟩,1000256)]⟩
def fO(a:LM)(b:Bool):St:=af [(2,xo 1000128),(3,xB b)] [] [(1000128,(⟨27,tM 3,a,true,false⟩:ac))]
def f42l9:ab:=⟨[2,3],[],[⟨⟨false,2,0⟩,30000000,27,.pair (.int .i64) (.pair (.int .i64) (.sl 3 (.int .i64))),true⟩],[],[(⟨false,2,0⟩,1000128)]⟩
def f42B:Nat->Option ab:=az [(4,mC),(3,mC),(2,mB),(1,mB),(0,wJ),(1000000,f42l9)]
abbrev g9{J:Type}(N n:Nat)(U:St)(l:ab)(K:KT J):Option J:=an KL bm f42B N (a8 99 (bn Tryz.f42) n) .n U (ay (some l) K)
def f42t1 N a (K:KT J):g9 N 2 (f42s0 a) f42l1 K =
 bS.Z1 N a (λb c d=>K .nrm (KM b c d)):=by kernel_rfl
def f42t3 N a b c (K:KT J):g9 N 5 (KM a b c) f42l2 K =
 bS.Z3 N a b c (λd e=>K .nrm (KN d e)):=by kernel_rfl
def f42t5 N a b (K:KT J):g9 N 11 (KN a b) wJ K =
 bS.Z5 N a b (λa=>K .nrm (mA a)) (λc d=>K .ret (fO c d)):=by kernel_rfl
def f42t8 N a (K:KT J):g9 N 39 (mA a) mB K =
 bS.Z8 N a (λa b c=>K .nrm (iN a b c)):=by kernel_rfl
def f42t12 N a b c (K:KT J):g9 N 279 (iN a b c) f42l5 K =
 bS.Z12 N a b c (λa b c d=>K .nrm (KO a b c d)):=by kernel_rfl
def f42t14 N a b c d (K:KT J):g9 N 663 (KO a b c d) mB K =
 bS.Z14 N a b c d (λa b c=>K .nrm (iN a b c)) (λa=>K (.exit 0) (mA a)):=by kernel_rfl
def f42t18 N a b c (K:KT J):g9 N 4503 (iN a b c) f42l6 K =
 bS.Z18 N a b c (λa b c d e f=>K .nrm (KP a b c d e f)):=by kernel_rfl
def f42t20 N a b c d e f (K:KT J):g9 N 10647 (KP a b c d e f) mC K =
 bS.Z20 N a b c d e f (λa g b c d e f=>K .nrm (jn a g b c d e f)):=by kernel_rfl
def f42t24 N a d b c e f g (K:KT J):g9 N 72087 (jn a d b c e f g) mC K =
 bS.Z24 N a d b c e f g (λa d b c e f g=>K .nrm (jn a d b c e f g)) (λa b c=>K (.exit 2) (iN a b c)):=by kernel_rfl
def f42t28 N a b c d e f g (K:KT J):g9 N 563607 (jn a b c d e f g) KQ K =
 bS.Z28 N a b c d e f g (λa b h c d e f g=>K .nrm (wK a b h c d e f g)):=by kernel_rfl
def f42t31 N a b h c d e f g (K:KT J):g9 N 2398615 (wK a b h c d e f g) KQ K =
 bS.Z31 N a b h c d e f g (λa b h c d e f g=>K .nrm (wK a b h c d e f g)) (λa b c d e f g=>K (.exit 4) (jn a b c d e f g)) (λi j=>K .ret (fO i j)):=by kernel_rfl
def f42t30L N (K:KT J):=lO K (bS.Z30L N (λa b c d e f g=>K (.exit 4) (jn a b c d e f g)) (λh i=>K .ret (fO h i))) (λa b j c d e f g k=>bS.Z31 N a b j c d e f g k (λa b c d e f g=>K (.exit 4) (jn a b c d e f g)) (λh i=>K .ret (fO h i))) (λF a b j c d e f g=>f42t31 N a b j c d e f g _) (by kernel_rfl)
def f42t30 N a b c d e f g h (K:KT J):=vL (wK a b c d e f g h) (f42t30L N (jK mC K) N a b c d e f g h) (by kernel_rfl)
def f42t29 N a b h c d e f g (K:KT J):=vB 4 mC K (bS.Z29 N a b h c d e f g (λa b c d e f g=>K .nrm (jn a b c d e f g)) (λi j=>K .ret (fO i j))) (f42t30 N a b h c d e f g _) (by kernel_rfl)
def f42t27 N a b c d e f g (K:KT J):=vQ (λk=>bS.Z28 N a b c d e f g k) (f42t28 N a b c d e f g _) (eX λa b h c d e f g=>f42t29 N a b h c d e f g K)
def f42t26 N a b c d e f g (K:KT J):=vB 3 mC K (bS.Z26 N a b c d e f g (λa b c d e f g=>K .nrm (jn a b c d e f g)) (λh i=>K .ret (fO h i))) (f42t27 N a b c d e f g _) (by kernel_rfl)
def f42t32 N a b c d e f g (K:KT J):g9 N 235927 (jn a b c d e f g) mC K =
 bS.Z32 N a b c d e f g (λa b c d e f g=>K .nrm (jn a b c d e f g)):=by kernel_rfl
def f42t25 N a b c d e f g (K:KT J):=vQ (λk=>bS.Z26 N a b c d e f g k (λh i=>K .ret (fO h i))) (f42t26 N a b c d e f g _) (eC λa b c d e f g=>f42t32 N a b c d e f g K)
def f42t23 N a d b c e f g (K:KT J):=vQ (λk=>bS.Z24 N a d b c e f g k (λa b c=>K (.exit 2) (iN a b c))) (f42t24 N a d b c e f g _) (eC λa d b c e f g=>f42t25 N a d b c e f g K)
def f42t22L N (K:KT J):=nB K (bS.Z22L N (λa b c=>K (.exit 2) (iN a b c)) (λd e=>K .ret (fO d e))) (λa f b c g h i k=>bS.Z23 N a f b c g h i k (λa b c=>K (.exit 2) (iN a b c)) (λd e=>K .ret (fO d e))) (λF a f b c g h i=>f42t23 N a f b c g h i _) (by kernel_rfl)
def f42t22 N a b c d e f g (K:KT J):=vL (jn a b c d e f g) (f42t22L N (jK mB K) N a b c d e f g) (by kernel_rfl)
def f42t21 N a d b c e f g (K:KT J):=vB 2 mB K (bS.Z21 N a d b c e f g (λa b c=>K .nrm (iN a b c)) (λh i=>K .ret (fO h i))) (f42t22 N a d b c e f g _) (by kernel_rfl)
def f42t19 N a b c d e f (K:KT J):=vQ (λk=>bS.Z20 N a b c d e f k) (f42t20 N a b c d e f _) (eC λa g b c d e f=>f42t21 N a g b c d e f K)
def f42t17 N a b c (K:KT J):=vQ (λk=>bS.Z18 N a b c k) (f42t18 N a b c _) (cC λa b c d e f=>f42t19 N a b c d e f K)
def f42t16 N a b c (K:KT J):=vB 1 mB K (bS.Z16 N a b c (λa b c=>K .nrm (iN a b c)) (λd e=>K .ret (fO d e))) (f42t17 N a b c _) (by kernel_rfl)
def f42t33 N a b c (K:KT J):g9 N 1943 (iN a b c) mB K =
 bS.Z33 N a b c (λa b c=>K .nrm (iN a b c)):=by kernel_rfl
def f42t15 N a b c (K:KT J):=vQ (λk=>bS.Z16 N a b c k (λd e=>K .ret (fO d e))) (f42t16 N a b c _) (bZ λa b c=>f42t33 N a b c K)
def f42t13 N a b c d (K:KT J):=vQ (λk=>bS.Z14 N a b c d k (λa=>K (.exit 0) (mA a))) (f42t14 N a b c d _) (bZ λa b c=>f42t15 N a b c K)
def f42t11 N a b c (K:KT J):=vQ (λk=>bS.Z12 N a b c k) (f42t12 N a b c _) (dn λa b c d=>f42t13 N a b c d K)
def f42t10L N (K:KT J):=gS K (bS.Z10L N (λa=>K (.exit 0) (mA a)) (λb c=>K .ret (fO b c))) (λa d e k=>bS.Z11 N a d e k (λa=>K (.exit 0) (mA a)) (λb c=>K .ret (fO b c))) (λF a d e=>f42t11 N a d e _) (by kernel_rfl)
def f42t10 N a b c (K:KT J):=vL (iN a b c) (f42t10L N (jK wJ K) N a b c) (by kernel_rfl)
def f42t9 N a b c (K:KT J):=vB 0 wJ K (bS.Z9 N a b c (λa=>K .nrm (mA a)) (λd e=>K .ret (fO d e))) (f42t10 N a b c _) (by kernel_rfl)
def f42t7 N a (K:KT J):=vQ (λk=>bS.Z8 N a k) (f42t8 N a _) (bZ λa b c=>f42t9 N a b c K)
def f42t34 N a (K:KT J):g9 N 31 (mA a) f42lE K =
 bS.Z34 N a (λb c=>K .ret (fO b c)):=by kernel_rfl
def f42t6 N a (K:KT J):=vQ (λk=>bS.Z7 N a k (λb c=>K .ret (fO b c))) (f42t7 N a _) (funext λa=>f42t34 N a K)
def f42t4 N a b (K:KT J):=vQ (λk=>bS.Z5 N a b k (λc d=>K .ret (fO c d))) (f42t5 N a b _) (funext λa=>f42t6 N a K)
def f42t2 N a b c (K:KT J):=vQ (λk=>bS.Z3 N a b c k) (f42t3 N a b c _) (cX λd e=>f42t4 N d e K)
def f42t0 N a (K:KT J):=vQ (λk=>bS.Z1 N a k) (f42t1 N a _) (bZ λb c d=>f42t2 N b c d K)
def f42ok(h:bS.Spec):av Tryz.prog 42 BX :=
 bu Tryz.func42 bq f42GOk (λN X K=>f42t0 N X.1 K) (by kernel_rfl) λX hb hp=>by obtain⟨a,_⟩:=X;obtain⟨N,h⟩:=h a hb.1;exact⟨N,Eq.trans (by kernel_rfl) (h N (Nat.le_refl N))⟩
def e42ok:av Tryz.prog 42 BX:=f42ok bS.ok
def KR:aW:=⟨[⟨.pair (.int .i64) (.pair (.int .i64) (.sl 3 (.int .i64))),true,false⟩,⟨.int .i64,false,false⟩],[⟨.sl 3 (.int .i64),false,false⟩]⟩
def wL:aK:=⟨KR,(some λX=>cB.P X.1 X.2.1),λX=>((),((cB.g X.1 X.2.1),()))⟩
def KS:Gm:=aD bi 83 ml
def f110GOk:aw Tryz.prog KS:=(aw.nil).add qc (by kernel_rfl)
def f110lE:ab:=⟨[],[],[],[],[]⟩
def f110s0(a:MT)(b:Int):St:=be KR.ps (a,(b,()))
def KU(a b c:Int)(d:LI):St:=af [(1,xi a),(2,xb 2)] [(2,(27,[yi b,yi c,.sn 3 tI d none]))] []
def f110l1:ab:=⟨[1,2],[2],[],[],[]⟩
def KV(a b d:Int)(e:LI):St:=af [(1,xi a),(2,xb 2),(5,.c (.nil))] [(2,(27,[yi b,yi d,.sn 3 tI e none]))] []
def f110l2:ab:=⟨[1,2,5],[2],[],[],[]⟩
def KW(a b d e:Int)(f:LI):St:=af [(1,xi a),(2,xb 2),(5,.c (.nil)),(6,xi b)] [(2,(27,[yi d,yi e,.sn 3 tI f none]))] []
def f110l3:ab:=⟨[1,2,5,6],[2],[],[],[]⟩
def KX(a:LI)(b c d e:Int)(f:LI):St:=af [(1,xi b),(2,xb 2),(5,xo 1000320),(6,xi c)] [(2,(27,[yi d,yi e,.sn 3 tI f none]))] [(1000320,(⟨3,.int .i64,a,true,false⟩:ac))]
def f110l4:ab:=⟨[1,2,5,6],[2],[⟨⟨false,5,0⟩,30000000,3,.int .i64,true⟩],[],[(⟨false,5,0⟩,1000320)]⟩
def s9(a:LI):St:=af [(5,xo 1000320)] [] [(1000320,(⟨3,.int .i64,a,true,false⟩:ac))]
def BY:ab:=⟨[5],[],[],[],[(⟨false,5,0⟩,1000320)]⟩
def f110s6(a:LI):St:=af [(4,xo 1000256)] [] [(1000256,(⟨3,.int .i64,a,true,false⟩:ac))]
def f110l6:ab:=⟨[4],[],[],[],[(⟨false,4,0⟩,1000256)]⟩
def f110B:Nat->Option ab:=az [(0,BY),(1000000,f110l6)]
abbrev ta{J:Type}(N n:Nat)(U:St)(l:ab)(K:KT J):Option J:=an KS bm f110B N (a8 99 (bn Tryz.f110) n) .n U (ay (some l) K)
def f110t1 N b a (K:KT J):ta N 2 (f110s0 b a) f110l1 K =
 cB.Z1 N b a (λa c d e=>K .nrm (KU a c d e)):=by kernel_rfl
def f110t3 N a b c d (K:KT J):ta N 5 (KU a b c d) f110l2 K =
 cB.Z3 N a b c d (λa b c d=>K .nrm (KV a b c d)):=by kernel_rfl
def f110t6 N a b c d (K:KT J):ta N 19 (KV a b c d) f110l3 K =
 cB.Z6 N a b c d (λa e b c d=>K .nrm (KW a e b c d)):=by kernel_rfl
def f110t9 N a b c d e f (K:KT J):ta N 75 (KX a b c d e f) f110l4 K =
 cB.Z9 N a b c d e f (λa b c d e f=>K .nrm (KX a b c d e f)) (λa=>K (.exit 0) (s9 a)):=by kernel_rfl
def f110t8L N (K:KT J):=iV K (cB.Z8L N (λa=>K (.exit 0) (s9 a))) (λa b c d e f k=>cB.Z9 N a b c d e f k (λa=>K (.exit 0) (s9 a))) (λF a b c d e f=>f110t9 N a b c d e f _) (by kernel_rfl)
def f110t8 N a b c d e (K:KT J):=vL (KW a b c d e) (f110t8L N (jK BY K) N ([]:List Int) a b c d e) (by kernel_rfl)
def f110t7 N a b c d e (K:KT J):=vB 0 BY K (cB.Z7 N a b c d e (λf=>K .nrm (s9 f))) (f110t8 N a b c d e _) (by kernel_rfl)
def f110t5 N a b c d (K:KT J):=vQ (λk=>cB.Z6 N a b c d k) (f110t6 N a b c d _) (bO λa e b c d=>f110t7 N a e b c d K)
def f110t10 N a (K:KT J):ta N 15 (s9 a) f110lE K =
 cB.Z10 N a (λb=>K .ret (f110s6 b)):=by kernel_rfl
def f110t4 N a b c d (K:KT J):=vQ (λk=>cB.Z5 N a b c d k) (f110t5 N a b c d _) (funext λe=>f110t10 N e K)
def f110t2 N a b c d (K:KT J):=vQ (λk=>cB.Z3 N a b c d k) (f110t3 N a b c d _) (dn λa b c d=>f110t4 N a b c d K)
def f110t0 N b a (K:KT J):=vQ (λk=>cB.Z1 N b a k) (f110t1 N b a _) (dn λa c d e=>f110t2 N a c d e K)
def f110ok(h:cB.Spec):av Tryz.prog 110 wL :=
 bu Tryz.func110 bq f110GOk (λN X K=>f110t0 N X.1 X.2.1 K) (by kernel_rfl) λX hb hp=>by obtain⟨a,b,_⟩:=X;obtain⟨N,h⟩:=h a b hb.1 hp;exact⟨N,Eq.trans (by kernel_rfl) (h N (Nat.le_refl N))⟩
def KY:av Tryz.prog 110 wL:=f110ok cB.ok
def KZ:aW:=⟨[⟨.pair (.int .i64) (.pair (.int .i64) (.sl 3 (.int .i64))),true,false⟩],[⟨.sl 22 (.sl 3 (.int .i64)),false,false⟩,⟨.bool,false,false⟩]⟩
def BZ:aK:=⟨KZ,(some λX=>bA.P X.1),λX=>((),((bA.g X.1).1,((bA.g X.1).2,())))⟩
def K0:Gm:=aD bi 110 wL
def f76GOk:aw Tryz.prog K0:=(aw.nil).add KY (by kernel_rfl)
def f76lE:ab:=⟨[],[],[],[],[]⟩
def f76s0(a:MT):St:=be KZ.ps (a,())
def K1(a b:Int)(c:LI):St:=af [(1,xb 1)] [(1,(27,[yi a,yi b,.sn 3 tI c none]))] []
def f76l1:ab:=⟨[1],[1],[],[],[]⟩
def K2(a b:Int)(d:LI):St:=af [(1,xb 1),(4,.c (.nil))] [(1,(27,[yi a,yi b,.sn 3 tI d none]))] []
def f76l2:ab:=⟨[1,4],[1],[],[],[]⟩
def K3(a:List Bool)(b d:Int)(e:LI):St:=af [(1,xb 1),(4,.c (.nil)),(5,xo 1000320)] [(1,(27,[yi b,yi d,.sn 3 tI e none]))] [(1000320,(⟨4,.bool,a,true,false⟩:ac))]
def f76l3:ab:=⟨[1,4,5],[1],[],[],[(⟨false,5,0⟩,1000320)]⟩
def K4(a:List Bool)(b d e f:Int)(g:LI):St:=af [(1,xb 1),(4,.c (.nil)),(5,xo 1000320),(16,xi b),(17,xi d)] [(1,(27,[yi e,yi f,.sn 3 tI g none]))] [(1000320,(⟨4,.bool,a,true,false⟩:ac))]
def f76l4:ab:=⟨[1,4,5,16,17],[1],[],[],[(⟨false,5,0⟩,1000320)]⟩
def K5(a:LL)(b:List Bool)(c d e f:Int)(g:LI):St:=af [(1,xb 1),(4,xo 1000256),(5,xo 1000320),(16,xi c),(17,xi d)] [(1,(27,[yi e,yi f,.sn 3 tI g none]))] [(1000256,(⟨22,.sl 3 tI,a,true,false⟩:ac)),(1000320,(⟨4,.bool,b,true,false⟩:ac))]
def f76l11:ab:=⟨[1,4,5,16,17],[1],[⟨⟨false,4,0⟩,30000000,22,.sl 3 (.int .i64),true⟩],[],[(⟨false,4,0⟩,1000256),(⟨false,5,0⟩,1000320)]⟩
def ob(a:LL)(b:List Bool)(c d e f:Int)(g:LI):St:=af [(1,xb 1),(4,xo 1000256),(5,xo 1000320),(16,xi c),(17,xi d)] [(1,(27,[yi e,yi f,.sn 3 tI g none]))] [(1000256,(⟨22,.sl 3 tI,a,true,false⟩:ac)),(1000320,(⟨4,.bool,b,true,false⟩:ac))]
def wM:ab:=⟨[1,4,5,16,17],[1],[],[],[(⟨false,4,0⟩,1000256),(⟨false,5,0⟩,1000320)]⟩
def K6(a:LL)(b:List Bool)(c d:Int)(e:Bool)(f g:Int)(h:LI):St:=af [(1,xb 1),(4,xo 1000256),(5,xo 1000320),(16,xi c),(17,xi d),(18,xB e)] [(1,(27,[yi f,yi g,.sn 3 tI h none]))] [(1000256,(⟨22,.sl 3 tI,a,true,false⟩:ac)),(1000320,(⟨4,.bool,b,true,false⟩:ac))]
def f76l13:ab:=⟨[1,4,5,16,17,18],[1],[],[],[(⟨false,4,0⟩,1000256),(⟨false,5,0⟩,1000320)]⟩
def qt(a:LL)(b:List Bool)(c d e f g:Int)(h:LI):St:=af [(1,xb 1),(4,xo 1000256),(5,xo 1000320),(6,xi c),(16,xi d),(17,xi e)] [(1,(27,[yi f,yi g,.sn 3 tI h none]))] [(1000256,(⟨22,.sl 3 tI,a,true,false⟩:ac)),(1000320,(⟨4,.bool,b,true,false⟩:ac))]
def B1:ab:=⟨[1,4,5,6,16,17],[1],[],[],[(⟨false,4,0⟩,1000256),(⟨false,5,0⟩,1000320)]⟩
def K7(a:LL)(b:List Bool)(c:LI)(d e f g:Int)(h:LI):St:=af [(1,xb 1),(4,xo 1000256),(5,xo 1000320),(7,xo 1000448),(16,xi d),(17,xi e)] [(1,(27,[yi f,yi g,.sn 3 tI h none]))] [(1000256,(⟨22,.sl 3 tI,a,true,false⟩:ac)),(1000320,(⟨4,.bool,b,true,false⟩:ac)),(1000448,(⟨3,.int .i64,c,true,false⟩:ac))]
def f76l15:ab:=⟨[1,4,5,7,16,17],[1],[],[],[(⟨false,4,0⟩,1000256),(⟨false,5,0⟩,1000320),(⟨false,7,0⟩,1000448)]⟩
def mD(a:LL)(b:List Bool)(c:LI)(d e f g h:Int)(i:LI):St:=af [(1,xb 1),(4,xo 1000256),(5,xo 1000320),(7,xo 1000448),(8,xi d),(16,xi e),(17,xi f)] [(1,(27,[yi g,yi h,.sn 3 tI i none]))] [(1000256,(⟨22,.sl 3 tI,a,true,false⟩:ac)),(1000320,(⟨4,.bool,b,true,false⟩:ac)),(1000448,(⟨3,.int .i64,c,true,false⟩:ac))]
def wN:ab:=⟨[1,4,5,7,8,16,17],[1],[],[],[(⟨false,4,0⟩,1000256),(⟨false,5,0⟩,1000320),(⟨false,7,0⟩,1000448)]⟩
def jo(a:LL)(b:List Bool)(c:LI)(d e f g h i:Int)(j:LI):St:=af [(1,xb 1),(4,xo 1000256),(5,xo 1000320),(7,xo 1000448),(8,xi d),(9,xi e),(16,xi f),(17,xi g)] [(1,(27,[yi h,yi i,.sn 3 tI j none]))] [(1000256,(⟨22,.sl 3 tI,a,true,false⟩:ac)),(1000320,(⟨4,.bool,b,true,false⟩:ac)),(1000448,(⟨3,.int .i64,c,true,false⟩:ac))]
def mE:ab:=⟨[1,4,5,7,8,9,16,17],[1],[],[],[(⟨false,4,0⟩,1000256),(⟨false,5,0⟩,1000320),(⟨false,7,0⟩,1000448)]⟩
def wO(a:LL)(b:List Bool)(c d:LI)(e f g h i j l m:Int)(o:LI):St:=af [(1,xb 1),(4,xo 1000256),(5,xo 1000320),(7,xo 1000448),(8,xi e),(9,xi f),(16,xi g),(17,xi h),(40,xo 1002560),(41,xi i),(42,xi j)] [(1,(27,[yi l,yi m,.sn 3 tI o none]))] [(1000256,(⟨22,.sl 3 tI,a,true,false⟩:ac)),(1000320,(⟨4,.bool,b,true,false⟩:ac)),(1000448,(⟨3,.int .i64,c,true,false⟩:ac)),(1002560,(⟨3,.int .i64,d,true,false⟩:ac))]
def K8:ab:=⟨[1,4,5,7,8,9,16,17,40,41,42],[1],[],[],[(⟨false,4,0⟩,1000256),(⟨false,5,0⟩,1000320),(⟨false,7,0⟩,1000448),(⟨false,40,0⟩,1002560)]⟩
def qu(a:LL):St:=af [(4,xo 1000256)] [] [(1000256,(⟨22,.sl 3 tI,a,true,false⟩:ac))]
def B2:ab:=⟨[4],[],[],[],[(⟨false,4,0⟩,1000256)]⟩
def mF(a:LL)(b:Bool):St:=af [(2,xo 1000128),(3,xB b)] [] [(1000128,(⟨22,.sl 3 tI,a,true,false⟩:ac))]
def f76l20:ab:=⟨[2,3],[],[⟨⟨false,2,0⟩,30000000,22,.sl 3 (.int .i64),true⟩],[],[(⟨false,2,0⟩,1000128)]⟩
def f76B:Nat->Option ab:=az [(4,mE),(3,mE),(2,wN),(1,wM),(0,B2),(1000000,f76l20)]
abbrev fo{J:Type}(N n:Nat)(U:St)(l:ab)(K:KT J):Option J:=an K0 bm f76B N (a8 99 (bn Tryz.f76) n) .n U (ay (some l) K)
def f76t1 N a (K:KT J):fo N 2 (f76s0 a) f76l1 K =
 bA.Z1 N a (λb c d=>K .nrm (K1 b c d)):=by kernel_rfl
def f76t3 N a b c (K:KT J):fo N 5 (K1 a b c) f76l2 K =
 bA.Z3 N a b c (λa b c=>K .nrm (K2 a b c)):=by kernel_rfl
def f76t5 N a b c (K:KT J):fo N 11 (K2 a b c) f76l3 K =
 bA.Z5 N a b c (λd a b c=>K .nrm (K3 d a b c)):=by kernel_rfl
def f76t8 N a b c d (K:KT J):fo N 39 (K3 a b c d) f76l4 K =
 bA.Z8 N a b c d (λa e f b c d=>K .nrm (K4 a e f b c d)):=by kernel_rfl
def f76t12 N a b c d e f g (K:KT J):fo N 279 (K5 a b c d e f g) f76l13 K =
 bA.Z12 N a b c d e f g (λa b c d h e f g=>K .nrm (K6 a b c d h e f g)):=by kernel_rfl
def f76t14 N a b c d h e f g (K:KT J):fo N 663 (K6 a b c d h e f g) wM K =
 bA.Z14 N a b c d h e f g (λa b c d e f g=>K .nrm (ob a b c d e f g)) (λa=>K (.exit 0) (qu a)):=by kernel_rfl
def f76t18 N a b c d e f g (K:KT J):fo N 4503 (ob a b c d e f g) B1 K =
 bA.Z18 N a b c d e f g (λa b h c d e f g=>K .nrm (qt a b h c d e f g)):=by kernel_rfl
def f76t20 N a b h c d e f g (K:KT J):fo N 10647 (qt a b h c d e f g) B1 K =
 bA.Z20 N a b h c d e f g (λa b h c d e f g=>K .nrm (qt a b h c d e f g)) (λa b c d e f g=>K (.exit 1) (ob a b c d e f g)):=by kernel_rfl
def f76t22 N a b c d e f g h (K:KT J):fo N 22935 (qt a b c d e f g h) B1 K =
 bA.Z22 N a b c d e f g h (λa b c d e f g h=>K .nrm (qt a b c d e f g h)):=by kernel_rfl
def f76t24 N a b h c d e f g (K:KT J):fo N 47511 (qt a b h c d e f g) f76l15 K =
 bA.Z24 N a b h c d e f g (λa b i c d e f g=>K .nrm (K7 a b i c d e f g)):=by kernel_rfl
def f76t26 N a b c d e f g h (K:KT J):fo N 96663 (K7 a b c d e f g h) wN K =
 bA.Z26 N a b c d e f g h (λa b c i d e f g h=>K .nrm (mD a b c i d e f g h)):=by kernel_rfl
def f76t29 N a b c d e f g h i (K:KT J):fo N 326039 (mD a b c d e f g h i) mE K =
 bA.Z29 N a b c d e f g h i (λa b c d j e f g h i=>K .nrm (jo a b c d j e f g h i)):=by kernel_rfl
def f76t33 N a b c d j e f g h i (K:KT J):fo N 2292119 (jo a b c d j e f g h i) mE K =
 bA.Z33 N a b c d j e f g h i (λa b c d j e f g h i=>K .nrm (jo a b c d j e f g h i)) (λa b c d e f g h i=>K (.exit 2) (mD a b c d e f g h i)):=by kernel_rfl
def f76t37 N a b c d e f g h i j (K:KT J):fo N 18020759 (jo a b c d e f g h i j) K8 K =
 bA.Z37 N a b c d e f g h i j (λa b c l d e f g m o h i j=>K .nrm (wO a b c l d e f g m o h i j)):=by kernel_rfl
def f76t40 N a b c l d e f g m o h i j (K:KT J):fo N 76741015 (wO a b c l d e f g m o h i j) K8 K =
 bA.Z40 N a b c l d e f g m o h i j (λa b c l d e f g m o h i j=>K .nrm (wO a b c l d e f g m o h i j)) (λa b c d e f g h i j=>K (.exit 4) (jo a b c d e f g h i j)):=by kernel_rfl
def f76t39L N (K:KT J):=rM K (bA.Z39L N (λa b c d e f g h i j=>K (.exit 4) (jo a b c d e f g h i j))) (λa b c l d e f g m o h i j k=>bA.Z40 N a b c l d e f g m o h i j k (λa b c d e f g h i j=>K (.exit 4) (jo a b c d e f g h i j))) (λF a b c l d e f g m o h i j=>f76t40 N a b c l d e f g m o h i j _) (by kernel_rfl)
def f76t39 N a b c d e f g h i j l m o (K:KT J):=vL (wO a b c d e f g h i j l m o) (f76t39L N (jK mE K) N a b c d e f g h i j l m o) (by kernel_rfl)
def f76t38 N a b c l d e f g m o h i j (K:KT J):=vB 4 mE K (bA.Z38 N a b c l d e f g m o h i j (λa b c d e f g h i j=>K .nrm (jo a b c d e f g h i j))) (f76t39 N a b c l d e f g m o h i j _) (by kernel_rfl)
def f76t36 N a b c d e f g h i j (K:KT J):=vQ (λk=>bA.Z37 N a b c d e f g h i j k) (f76t37 N a b c d e f g h i j _) (lN λa b c l d e f g m o h i j=>f76t38 N a b c l d e f g m o h i j K)
def f76t35 N a b c d e f g h i j (K:KT J):=vB 3 mE K (bA.Z35 N a b c d e f g h i j (λa b c d e f g h i j=>K .nrm (jo a b c d e f g h i j))) (f76t36 N a b c d e f g h i j _) (by kernel_rfl)
def f76t41 N a b c d e f g h i j (K:KT J):fo N 7534999 (jo a b c d e f g h i j) mE K =
 bA.Z41 N a b c d e f g h i j (λa b c d e f g h i j=>K .nrm (jo a b c d e f g h i j)):=by kernel_rfl
def f76t34 N a b c d e f g h i j (K:KT J):=vQ (λk=>bA.Z35 N a b c d e f g h i j k) (f76t35 N a b c d e f g h i j _) (cJ λa b c d e f g h i j=>f76t41 N a b c d e f g h i j K)
def f76t32 N a b c d j e f g h i (K:KT J):=vQ (λk=>bA.Z33 N a b c d j e f g h i k (λa b c d e f g h i=>K (.exit 2) (mD a b c d e f g h i))) (f76t33 N a b c d j e f g h i _) (cJ λa b c d j e f g h i=>f76t34 N a b c d j e f g h i K)
def f76t31L N (K:KT J):=kP K (bA.Z31L N (λa b c d e f g h i=>K (.exit 2) (mD a b c d e f g h i))) (λa b c d j e f g h i k=>bA.Z32 N a b c d j e f g h i k (λa b c d e f g h i=>K (.exit 2) (mD a b c d e f g h i))) (λF a b c d j e f g h i=>f76t32 N a b c d j e f g h i _) (by kernel_rfl)
def f76t31 N a b c d e f g h i j (K:KT J):=vL (jo a b c d e f g h i j) (f76t31L N (jK wN K) N a b c d e f g h i j) (by kernel_rfl)
def f76t30 N a b c d j e f g h i (K:KT J):=vB 2 wN K (bA.Z30 N a b c d j e f g h i (λa b c d e f g h i=>K .nrm (mD a b c d e f g h i))) (f76t31 N a b c d j e f g h i _) (by kernel_rfl)
def f76t28 N a b c d e f g h i (K:KT J):=vQ (λk=>bA.Z29 N a b c d e f g h i k) (f76t29 N a b c d e f g h i _) (cJ λa b c d j e f g h i=>f76t30 N a b c d j e f g h i K)
def f76t42 N a b h i c d e f g (K:KT J):fo N 260503 (mD a b h i c d e f g) wM K =
 bA.Z42 N a b h i c d e f g (λa b c d e f g=>K .nrm (ob a b c d e f g)) (λj l=>K .ret (mF j l)):=by kernel_rfl
def f76t27 N a b c d e f g h i (K:KT J):=vQ (λk=>bA.Z28 N a b c d e f g h i k) (f76t28 N a b c d e f g h i _) (c6 λa b c d e f g h i=>f76t42 N a b c d e f g h i K)
def f76t25 N a b c d e f g h (K:KT J):=vQ (λk=>bA.Z26 N a b c d e f g h k) (f76t26 N a b c d e f g h _) (c6 λa b c i d e f g h=>f76t27 N a b c i d e f g h K)
def f76t23 N a b h c d e f g (K:KT J):=vQ (λk=>bA.Z24 N a b h c d e f g k) (f76t24 N a b h c d e f g _) (eX λa b i c d e f g=>f76t25 N a b i c d e f g K)
def f76t21 N a b c d e f g h (K:KT J):=vQ (λk=>bA.Z22 N a b c d e f g h k) (f76t22 N a b c d e f g h _) (eX λa b c d e f g h=>f76t23 N a b c d e f g h K)
def f76t19 N a b h c d e f g (K:KT J):=vQ (λk=>bA.Z20 N a b h c d e f g k (λa b c d e f g=>K (.exit 1) (ob a b c d e f g))) (f76t20 N a b h c d e f g _) (eX λa b h c d e f g=>f76t21 N a b h c d e f g K)
def f76t17 N a b c d e f g (K:KT J):=vQ (λk=>bA.Z18 N a b c d e f g k) (f76t18 N a b c d e f g _) (eX λa b h c d e f g=>f76t19 N a b h c d e f g K)
def f76t16 N a b c d e f g (K:KT J):=vB 1 wM K (bA.Z16 N a b c d e f g (λa b c d e f g=>K .nrm (ob a b c d e f g)) (λh i=>K .ret (mF h i))) (f76t17 N a b c d e f g _) (by kernel_rfl)
def f76t43 N a b c d e f g (K:KT J):fo N 1943 (ob a b c d e f g) f76l11 K =
 bA.Z43 N a b c d e f g (λa b c d e f g=>K .nrm (K5 a b c d e f g)):=by kernel_rfl
def f76t15 N a b c d e f g (K:KT J):=vQ (λk=>bA.Z16 N a b c d e f g k (λh i=>K .ret (mF h i))) (f76t16 N a b c d e f g _) (eC λa b c d e f g=>f76t43 N a b c d e f g K)
def f76t13 N a b c d h e f g (K:KT J):=vQ (λk=>bA.Z14 N a b c d h e f g k (λa=>K (.exit 0) (qu a))) (f76t14 N a b c d h e f g _) (eC λa b c d e f g=>f76t15 N a b c d e f g K)
def f76t11 N a b c d e f g (K:KT J):=vQ (λk=>bA.Z12 N a b c d e f g k) (f76t12 N a b c d e f g _) (eX λa b c d h e f g=>f76t13 N a b c d h e f g K)
def f76t10L N (K:KT J):=nB K (bA.Z10L N (λa=>K (.exit 0) (qu a)) (λb c=>K .ret (mF b c))) (λa d e f g h i k=>bA.Z11 N a d e f g h i k (λa=>K (.exit 0) (qu a)) (λb c=>K .ret (mF b c))) (λF a d e f g h i=>f76t11 N a d e f g h i _) (by kernel_rfl)
def f76t10 N a b c d e f (K:KT J):=vL (K4 a b c d e f) (f76t10L N (jK B2 K) N ([]:List (LI)) a b c d e f) (by kernel_rfl)
def f76t9 N a b c d e f (K:KT J):=vB 0 B2 K (bA.Z9 N a b c d e f (λg=>K .nrm (qu g)) (λh i=>K .ret (mF h i))) (f76t10 N a b c d e f _) (by kernel_rfl)
def f76t7 N a b c d (K:KT J):=vQ (λk=>bA.Z8 N a b c d k) (f76t8 N a b c d _) (cC λa e f b c d=>f76t9 N a e f b c d K)
def f76t44 N a (K:KT J):fo N 31 (qu a) f76lE K =
 bA.Z44 N a (λb c=>K .ret (mF b c)):=by kernel_rfl
def f76t6 N a b c d (K:KT J):=vQ (λk=>bA.Z7 N a b c d k (λe f=>K .ret (mF e f))) (f76t7 N a b c d _) (funext λg=>f76t44 N g K)
def f76t4 N a b c (K:KT J):=vQ (λk=>bA.Z5 N a b c k) (f76t5 N a b c _) (dn λd a b c=>f76t6 N d a b c K)
def f76t2 N a b c (K:KT J):=vQ (λk=>bA.Z3 N a b c k) (f76t3 N a b c _) (bZ λa b c=>f76t4 N a b c K)
def f76t0 N a (K:KT J):=vQ (λk=>bA.Z1 N a k) (f76t1 N a _) (bZ λb c d=>f76t2 N b c d K)
def f76ok(h:bA.Spec):av Tryz.prog 76 BZ :=
 bu Tryz.func76 bq f76GOk (λN X K=>f76t0 N X.1 K) (by kernel_rfl) λX hb hp=>by obtain⟨a,_⟩:=X;obtain⟨N,h⟩:=h a hb.1 hp;exact⟨N,Eq.trans (by kernel_rfl) (h N (Nat.le_refl N))⟩
def e76ok:av Tryz.prog 76 BZ:=f76ok bA.ok
def K9:aW:=⟨[⟨.pair (.int .i64) (.pair (.int .i64) (.sl 3 (.int .i64))),true,false⟩],[⟨.sl 22 (.sl 3 (.int .i64)),false,false⟩]⟩
def B3:aK:=⟨K9,none,λX=>((),((cD.g X.1),()))⟩
def La:Gm:=aD (aD bi 63 n7) 83 ml
def f37GOk:aw Tryz.prog La:=((aw.nil).add sZ (by kernel_rfl)).add qc (by kernel_rfl)
def f37lE:ab:=⟨[],[],[],[],[]⟩
def f37s0(a:MT):St:=be K9.ps (a,())
def wP(a b:Int)(c:LI):St:=af [(1,xb 1)] [(1,(27,[yi a,yi b,.sn 3 tI c none]))] []
def Lc:ab:=⟨[1],[1],[],[],[]⟩
def Ld(a b:Int)(d:LI):St:=af [(1,xb 1),(3,.c (.nil))] [(1,(27,[yi a,yi b,.sn 3 tI d none]))] []
def f37l2:ab:=⟨[1,3],[1],[],[],[]⟩
def Le(a b d:Int)(e:LI):St:=af [(1,xb 1),(3,.c (.nil)),(4,xi a)] [(1,(27,[yi b,yi d,.sn 3 tI e none]))] []
def f37l3:ab:=⟨[1,3,4],[1],[],[],[]⟩
def tb(a:LL)(b c d:Int)(e:LI):St:=af [(1,xb 1),(3,xo 1000192),(4,xi b)] [(1,(27,[yi c,yi d,.sn 3 tI e none]))] [(1000192,(⟨22,.sl 3 tI,a,true,false⟩:ac))]
def wQ:ab:=⟨[1,3,4],[1],[],[],[(⟨false,3,0⟩,1000192)]⟩
def Lg(a:LL)(b c d:Int)(e:LI):St:=af [(1,xb 1),(3,xo 1000192),(4,xi b)] [(1,(27,[yi c,yi d,.sn 3 tI e none]))] [(1000192,(⟨22,.sl 3 tI,a,true,false⟩:ac))]
def f37l9:ab:=⟨[1,3,4],[1],[⟨⟨false,3,0⟩,30000000,22,.sl 3 (.int .i64),true⟩],[],[(⟨false,3,0⟩,1000192)]⟩
def Lh(a:LL)(b d e:Int)(f:LI):St:=af [(1,xb 1),(3,xo 1000192),(4,xi b),(5,.c (.nil))] [(1,(27,[yi d,yi e,.sn 3 tI f none]))] [(1000192,(⟨22,.sl 3 tI,a,true,false⟩:ac))]
def f37l10:ab:=⟨[1,3,4,5],[1],[],[],[(⟨false,3,0⟩,1000192)]⟩
def Li(a:LL)(b d e f:Int)(g:LI):St:=af [(1,xb 1),(3,xo 1000192),(4,xi b),(5,.c (.nil)),(6,xi d)] [(1,(27,[yi e,yi f,.sn 3 tI g none]))] [(1000192,(⟨22,.sl 3 tI,a,true,false⟩:ac))]
def f37l11:ab:=⟨[1,3,4,5,6],[1],[],[],[(⟨false,3,0⟩,1000192)]⟩
def Lj(a:LL)(b:LI)(c d e f:Int)(g:LI):St:=af [(1,xb 1),(3,xo 1000192),(4,xi c),(5,xo 1000320),(6,xi d)] [(1,(27,[yi e,yi f,.sn 3 tI g none]))] [(1000192,(⟨22,.sl 3 tI,a,true,false⟩:ac)),(1000320,(⟨3,.int .i64,b,true,false⟩:ac))]
def f37l12:ab:=⟨[1,3,4,5,6],[1],[⟨⟨false,5,0⟩,30000000,3,.int .i64,true⟩],[],[(⟨false,3,0⟩,1000192),(⟨false,5,0⟩,1000320)]⟩
def tc(a:LL)(b:LI)(c d e:Int)(f:LI):St:=af [(1,xb 1),(3,xo 1000192),(4,xi c),(5,xo 1000320)] [(1,(27,[yi d,yi e,.sn 3 tI f none]))] [(1000192,(⟨22,.sl 3 tI,a,true,false⟩:ac)),(1000320,(⟨3,.int .i64,b,true,false⟩:ac))]
def B4:ab:=⟨[1,3,4,5],[1],[],[],[(⟨false,3,0⟩,1000192),(⟨false,5,0⟩,1000320)]⟩
def qv(a:LL):St:=af [(3,xo 1000192)] [] [(1000192,(⟨22,.sl 3 tI,a,true,false⟩:ac))]
def B5:ab:=⟨[3],[],[],[],[(⟨false,3,0⟩,1000192)]⟩
def B6(a:LL):St:=af [(2,xo 1000128)] [] [(1000128,(⟨22,.sl 3 tI,a,true,false⟩:ac))]
def f37l15:ab:=⟨[2],[],[⟨⟨false,2,0⟩,30000000,22,.sl 3 (.int .i64),true⟩],[],[(⟨false,2,0⟩,1000128)]⟩
def f37B:Nat->Option ab:=az [(2,B4),(1,wQ),(0,B5),(1000000,f37l15)]
abbrev jO{J:Type}(N n:Nat)(U:St)(l:ab)(K:KT J):Option J:=an La bm f37B N (a8 99 (bn Tryz.f37) n) .n U (ay (some l) K)
def f37t1 N a (K:KT J):jO N 2 (f37s0 a) Lc K =
 cD.Z1 N a (λb c d=>K .nrm (wP b c d)):=by kernel_rfl
def f37t3 N a b c (K:KT J):jO N 5 (wP a b c) Lc K =
 cD.Z3 N a b c (λa b c=>K .nrm (wP a b c)) (λd=>K .ret (B6 d)):=by kernel_rfl
def f37t5 N a b c (K:KT J):jO N 11 (wP a b c) f37l2 K =
 cD.Z5 N a b c (λa b c=>K .nrm (Ld a b c)):=by kernel_rfl
def f37t8 N a b c (K:KT J):jO N 39 (Ld a b c) f37l3 K =
 cD.Z8 N a b c (λd a b c=>K .nrm (Le d a b c)):=by kernel_rfl
def f37t12 N a b c d e (K:KT J):jO N 279 (Lg a b c d e) wQ K =
 cD.Z12 N a b c d e (λa b c d e=>K .nrm (tb a b c d e)) (λa=>K (.exit 0) (qv a)):=by kernel_rfl
def f37t16 N a b c d e (K:KT J):jO N 2199 (tb a b c d e) f37l10 K =
 cD.Z16 N a b c d e (λa b c d e=>K .nrm (Lh a b c d e)):=by kernel_rfl
def f37t19 N a b c d e (K:KT J):jO N 9367 (Lh a b c d e) f37l11 K =
 cD.Z19 N a b c d e (λa b f c d e=>K .nrm (Li a b f c d e)):=by kernel_rfl
def f37t22 N a b c g d e f (K:KT J):jO N 38039 (Lj a b c g d e f) f37l12 K =
 cD.Z22 N a b c g d e f (λa b c g d e f=>K .nrm (Lj a b c g d e f)) (λa b c d e f=>K (.exit 2) (tc a b c d e f)):=by kernel_rfl
def f37t21L N (K:KT J):=nB K (cD.Z21L N (λa b c d e f=>K (.exit 2) (tc a b c d e f))) (λa b c g d e f k=>cD.Z22 N a b c g d e f k (λa b c d e f=>K (.exit 2) (tc a b c d e f))) (λF a b c g d e f=>f37t22 N a b c g d e f _) (by kernel_rfl)
def f37t21 N a b c d e f (K:KT J):=vL (Li a b c d e f) (f37t21L N (jK B4 K) N a ([]:List Int) b c d e f) (by kernel_rfl)
def f37t20 N a b f c d e (K:KT J):=vB 2 B4 K (cD.Z20 N a b f c d e (λa g b c d e=>K .nrm (tc a g b c d e))) (f37t21 N a b f c d e _) (by kernel_rfl)
def f37t18 N a b c d e (K:KT J):=vQ (λk=>cD.Z19 N a b c d e k) (f37t19 N a b c d e _) (cC λa b f c d e=>f37t20 N a b f c d e K)
def f37t23 N a f b c d e (K:KT J):jO N 7319 (tc a f b c d e) wQ K =
 cD.Z23 N a f b c d e (λa b c d e=>K .nrm (tb a b c d e)):=by kernel_rfl
def f37t17 N a b c d e (K:KT J):=vQ (λk=>cD.Z18 N a b c d e k) (f37t18 N a b c d e _) (cC λa f b c d e=>f37t23 N a f b c d e K)
def f37t15 N a b c d e (K:KT J):=vQ (λk=>cD.Z16 N a b c d e k) (f37t16 N a b c d e _) (bO λa b c d e=>f37t17 N a b c d e K)
def f37t14 N a b c d e (K:KT J):=vB 1 wQ K (cD.Z14 N a b c d e (λa b c d e=>K .nrm (tb a b c d e))) (f37t15 N a b c d e _) (by kernel_rfl)
def f37t24 N a b c d e (K:KT J):jO N 919 (tb a b c d e) f37l9 K =
 cD.Z24 N a b c d e (λa b c d e=>K .nrm (Lg a b c d e)):=by kernel_rfl
def f37t13 N a b c d e (K:KT J):=vQ (λk=>cD.Z14 N a b c d e k) (f37t14 N a b c d e _) (bO λa b c d e=>f37t24 N a b c d e K)
def f37t11 N a b c d e (K:KT J):=vQ (λk=>cD.Z12 N a b c d e k (λa=>K (.exit 0) (qv a))) (f37t12 N a b c d e _) (bO λa b c d e=>f37t13 N a b c d e K)
def f37t10L N (K:KT J):=j8 K (cD.Z10L N (λa=>K (.exit 0) (qv a))) (λa b c d e k=>cD.Z11 N a b c d e k (λa=>K (.exit 0) (qv a))) (λF a b c d e=>f37t11 N a b c d e _) (by kernel_rfl)
def f37t10 N a b c d (K:KT J):=vL (Le a b c d) (f37t10L N (jK B5 K) N ([]:List (LI)) a b c d) (by kernel_rfl)
def f37t9 N a b c d (K:KT J):=vB 0 B5 K (cD.Z9 N a b c d (λe=>K .nrm (qv e))) (f37t10 N a b c d _) (by kernel_rfl)
def f37t7 N a b c (K:KT J):=vQ (λk=>cD.Z8 N a b c k) (f37t8 N a b c _) (dn λd a b c=>f37t9 N d a b c K)
def f37t25 N a (K:KT J):jO N 31 (qv a) f37lE K =
 cD.Z25 N a (λb=>K .ret (B6 b)):=by kernel_rfl
def f37t6 N a b c (K:KT J):=vQ (λk=>cD.Z7 N a b c k) (f37t7 N a b c _) (funext λd=>f37t25 N d K)
def f37t4 N a b c (K:KT J):=vQ (λk=>cD.Z5 N a b c k) (f37t5 N a b c _) (bZ λa b c=>f37t6 N a b c K)
def f37t2 N a b c (K:KT J):=vQ (λk=>cD.Z3 N a b c k (λd=>K .ret (B6 d))) (f37t3 N a b c _) (bZ λa b c=>f37t4 N a b c K)
def f37t0 N a (K:KT J):=vQ (λk=>cD.Z1 N a k) (f37t1 N a _) (bZ λb c d=>f37t2 N b c d K)
def f37ok(h:cD.Spec):av Tryz.prog 37 B3 :=
 bu Tryz.func37 bq f37GOk (λN X K=>f37t0 N X.1 K) (by kernel_rfl) λX hb hp=>by obtain⟨a,_⟩:=X;obtain⟨N,h⟩:=h a hb.1;exact⟨N,Eq.trans (by kernel_rfl) (h N (Nat.le_refl N))⟩
def e37ok:av Tryz.prog 37 B3:=f37ok cD.ok
def Lk:aW:=⟨[⟨.pair (.int .i64) (.pair (.int .i64) (.sl 3 (.int .i64))),true,false⟩,⟨.sl 3 (.int .i64),false,false⟩],[⟨.str,false,false⟩]⟩
def B7:aK:=⟨Lk,(some λX=>bV.P X.1 X.2.1),λX=>((),((bV.g X.1 X.2.1),()))⟩
def Ll:Gm:=aD (aD (aD bi 37 B3) 90 wG) 110 wL
def f77GOk:aw Tryz.prog Ll:=(((aw.nil).add e37ok (by kernel_rfl)).add Kh (by kernel_rfl)).add KY (by kernel_rfl)
def f77lE:ab:=⟨[],[],[],[],[]⟩
def f77s0(a:MT)(b:LI):St:=be Lk.ps (a,(b,()))
def Lm(a:LI)(b d:Int)(e:LI):St:=af [(1,.c (.sn 3 tI a none)),(2,xb 2)] [(2,(27,[yi b,yi d,.sn 3 tI e none]))] []
def f77l1:ab:=⟨[1,2],[2],[],[],[]⟩
def Ln(a:LL)(b:LI)(d e:Int)(f:LI):St:=af [(1,.c (.sn 3 tI b none)),(2,xb 2),(5,xo 1000320)] [(2,(27,[yi d,yi e,.sn 3 tI f none]))] [(1000320,(⟨22,.sl 3 tI,a,true,false⟩:ac))]
def f77l2:ab:=⟨[1,2,5],[2],[],[],[(⟨false,5,0⟩,1000320)]⟩
def oc(a:LL)(b:LI)(d:ByteArray)(e f:Int)(g:LI):St:=af [(1,.c (.sn 3 tI b none)),(2,xb 2),(5,xo 1000320),(6,.c (.str d))] [(2,(27,[yi e,yi f,.sn 3 tI g none]))] [(1000320,(⟨22,.sl 3 tI,a,true,false⟩:ac))]
def wR:ab:=⟨[1,2,5,6],[2],[],[],[(⟨false,5,0⟩,1000320)]⟩
def wS(a:LL)(b:LI)(d:ByteArray)(e:LI)(f g h i:Int)(j:LI):St:=af [(1,.c (.sn 3 tI b none)),(2,xb 2),(5,xo 1000320),(6,.c (.str d)),(15,.c (.sn 3 tI e none)),(16,xi f),(17,xi g)] [(2,(27,[yi h,yi i,.sn 3 tI j none]))] [(1000320,(⟨22,.sl 3 tI,a,true,false⟩:ac))]
def Lo:ab:=⟨[1,2,5,6,15,16,17],[2],[],[],[(⟨false,5,0⟩,1000320)]⟩
def jp(a:LL)(b:LI)(d:ByteArray)(e:LI)(f g h i:Int)(j:LI):St:=af [(1,.c (.sn 3 tI b none)),(2,xb 2),(5,xo 1000320),(6,.c (.str d)),(31,.c (.sn 3 tI e none)),(32,xi f),(33,xi g)] [(2,(27,[yi h,yi i,.sn 3 tI j none]))] [(1000320,(⟨22,.sl 3 tI,a,true,false⟩:ac))]
def mG:ab:=⟨[1,2,5,6,31,32,33],[2],[],[],[(⟨false,5,0⟩,1000320)]⟩
def Lp(a:LL)(b:LI)(d:ByteArray)(e:LI)(f g:Int)(h:Bool)(i j:Int)(l:LI):St:=af [(1,.c (.sn 3 tI b none)),(2,xb 2),(5,xo 1000320),(6,.c (.str d)),(31,.c (.sn 3 tI e none)),(32,xi f),(33,xi g),(34,xB h)] [(2,(27,[yi i,yi j,.sn 3 tI l none]))] [(1000320,(⟨22,.sl 3 tI,a,true,false⟩:ac))]
def f77l6:ab:=⟨[1,2,5,6,31,32,33,34],[2],[],[],[(⟨false,5,0⟩,1000320)]⟩
def Lq(a:LL)(b:LI)(d:ByteArray)(e:Int)(f:LI)(g h i j:Int)(l:LI):St:=af [(1,.c (.sn 3 tI b none)),(2,xb 2),(5,xo 1000320),(6,.c (.str d)),(10,xi e),(31,.c (.sn 3 tI f none)),(32,xi g),(33,xi h)] [(2,(27,[yi i,yi j,.sn 3 tI l none]))] [(1000320,(⟨22,.sl 3 tI,a,true,false⟩:ac))]
def f77l7:ab:=⟨[1,2,5,6,10,31,32,33],[2],[],[],[(⟨false,5,0⟩,1000320)]⟩
def wT(a:LL)(b d:LI)(e:ByteArray)(f:Int)(g:LI)(h i j l m o:Int)(p:LI):St:=af [(1,.c (.sn 3 tI d none)),(2,xb 2),(5,xo 1000320),(6,.c (.str e)),(10,xi f),(31,.c (.sn 3 tI g none)),(32,xi h),(33,xi i),(39,xo 1002496),(40,xi j),(41,xi l)] [(2,(27,[yi m,yi o,.sn 3 tI p none]))] [(1000320,(⟨22,.sl 3 tI,a,true,false⟩:ac)),(1002496,(⟨3,.int .i64,b,true,false⟩:ac))]
def Lt:ab:=⟨[1,2,5,6,10,31,32,33,39,40,41],[2],[],[],[(⟨false,5,0⟩,1000320),(⟨false,39,0⟩,1002496)]⟩
def qw(a:LI)(b:ByteArray):St:=af [(1,.c (.sn 3 tI a none)),(6,.c (.str b))] [] []
def B8:ab:=⟨[1,6],[],[],[],[]⟩
def qx(a:ByteArray):St:=af [(4,.c (.str a))] [] []
def f77l10:ab:=⟨[4],[],[],[],[]⟩
def f77B:Nat->Option ab:=az [(0,wR),(4,mG),(3,mG),(2,B8),(1000000,f77l10)]
abbrev iO{J:Type}(N n:Nat)(U:St)(l:ab)(K:KT J):Option J:=an Ll bm f77B N (a8 99 (bn Tryz.f77) n) .n U (ay (some l) K)
def f77t1 N b a (K:KT J):iO N 2 (f77s0 b a) f77l1 K =
 bV.Z1 N b a (λa c d e=>K .nrm (Lm a c d e)):=by kernel_rfl
def f77t3 N a b c d (K:KT J):iO N 5 (Lm a b c d) f77l2 K =
 bV.Z3 N a b c d (λe a b c d=>K .nrm (Ln e a b c d)):=by kernel_rfl
def f77t5 N a b c d e (K:KT J):iO N 11 (Ln a b c d e) wR K =
 bV.Z5 N a b c d e (λa b f c d e=>K .nrm (oc a b f c d e)):=by kernel_rfl
def f77t8 N a b c d e f (K:KT J):iO N 39 (oc a b c d e f) Lo K =
 bV.Z8 N a b c d e f (λa b c g h i d e f=>K .nrm (wS a b c g h i d e f)):=by kernel_rfl
def f77t11 N a b c g h i d e f (K:KT J):iO N 151 (wS a b c g h i d e f) Lo K =
 bV.Z11 N a b c g h i d e f (λa b c g h i d e f=>K .nrm (wS a b c g h i d e f)) (λa b c d e f=>K (.exit 0) (oc a b c d e f)) (λj=>K .ret (qx j)):=by kernel_rfl
def f77t10L N (K:KT J):=oY K (bV.Z10L N (λa b c d e f=>K (.exit 0) (oc a b c d e f)) (λg=>K .ret (qx g))) (λa b c h i j d e f k=>bV.Z11 N a b c h i j d e f k (λa b c d e f=>K (.exit 0) (oc a b c d e f)) (λg=>K .ret (qx g))) (λF a b c h i j d e f=>f77t11 N a b c h i j d e f _) (by kernel_rfl)
def f77t10 N a b c d e f g h i (K:KT J):=vL (wS a b c d e f g h i) (f77t10L N (jK wR K) N a b c d e f g h i) (by kernel_rfl)
def f77t9 N a b c g h i d e f (K:KT J):=vB 0 wR K (bV.Z9 N a b c g h i d e f (λa b c d e f=>K .nrm (oc a b c d e f)) (λj=>K .ret (qx j))) (f77t10 N a b c g h i d e f _) (by kernel_rfl)
def f77t7 N a b c d e f (K:KT J):=vQ (λk=>bV.Z8 N a b c d e f k) (f77t8 N a b c d e f _) (c6 λa b c g h i d e f=>f77t9 N a b c g h i d e f K)
def f77t14 N a b c d e f (K:KT J):iO N 79 (oc a b c d e f) mG K =
 bV.Z14 N a b c d e f (λa b c g h i d e f=>K .nrm (jp a b c g h i d e f)):=by kernel_rfl
def f77t18 N a b c d e f g h i (K:KT J):iO N 559 (jp a b c d e f g h i) f77l6 K =
 bV.Z18 N a b c d e f g h i (λa b c d e f j g h i=>K .nrm (Lp a b c d e f j g h i)):=by kernel_rfl
def f77t20 N c a b d e f j g h i (K:KT J):iO N 1327 (Lp c a b d e f j g h i) mG K =
 bV.Z20 N c a b d e f j g h i (λc a b d e f g h i=>K .nrm (jp c a b d e f g h i)) (λa b=>K (.exit 2) (qw a b)):=by kernel_rfl
def f77t24 N a b c d e f g h i (K:KT J):iO N 9007 (jp a b c d e f g h i) f77l7 K =
 bV.Z24 N a b c d e f g h i (λa b c j d e f g h i=>K .nrm (Lq a b c j d e f g h i)):=by kernel_rfl
def f77t26 N a b c d e f g h i j (K:KT J):iO N 21295 (Lq a b c d e f g h i j) Lt K =
 bV.Z26 N a b c d e f g h i j (λa l b c d e f g m o h i j=>K .nrm (wT a l b c d e f g m o h i j)):=by kernel_rfl
def f77t29 N a j b c l d e f m o g h i (K:KT J):iO N 78639 (wT a j b c l d e f m o g h i) Lt K =
 bV.Z29 N a j b c l d e f m o g h i (λa j b c l d e f m o g h i=>K .nrm (wT a j b c l d e f m o g h i)) (λa b c d e f g h i=>K (.exit 4) (jp a b c d e f g h i)):=by kernel_rfl
def f77t28L N (K:KT J):=rM K (bV.Z28L N (λa b c d e f g h i=>K (.exit 4) (jp a b c d e f g h i))) (λa j b c l d e f m o g h i k=>bV.Z29 N a j b c l d e f m o g h i k (λa b c d e f g h i=>K (.exit 4) (jp a b c d e f g h i))) (λF a j b c l d e f m o g h i=>f77t29 N a j b c l d e f m o g h i _) (by kernel_rfl)
def f77t28 N a b c d e f g h i j l m o (K:KT J):=vL (wT a b c d e f g h i j l m o) (f77t28L N (jK mG K) N a b c d e f g h i j l m o) (by kernel_rfl)
def f77t27 N a j b c l d e f m o g h i (K:KT J):=vB 4 mG K (bV.Z27 N a j b c l d e f m o g h i (λa b c d e f g h i=>K .nrm (jp a b c d e f g h i))) (f77t28 N a j b c l d e f m o g h i _) (by kernel_rfl)
def f77t25 N a b c d e f g h i j (K:KT J):=vQ (λk=>bV.Z26 N a b c d e f g h i j k) (f77t26 N a b c d e f g h i j _) (lN λa l b c d e f g m o h i j=>f77t27 N a l b c d e f g m o h i j K)
def f77t23 N a b c d e f g h i (K:KT J):=vQ (λk=>bV.Z24 N a b c d e f g h i k) (f77t24 N a b c d e f g h i _) (cJ λa b c j d e f g h i=>f77t25 N a b c j d e f g h i K)
def f77t22 N a b c d e f g h i (K:KT J):=vB 3 mG K (bV.Z22 N a b c d e f g h i (λa b c d e f g h i=>K .nrm (jp a b c d e f g h i))) (f77t23 N a b c d e f g h i _) (by kernel_rfl)
def f77t30 N a b c d e f g h i (K:KT J):iO N 3887 (jp a b c d e f g h i) mG K =
 bV.Z30 N a b c d e f g h i (λa b c d e f g h i=>K .nrm (jp a b c d e f g h i)):=by kernel_rfl
def f77t21 N a b c d e f g h i (K:KT J):=vQ (λk=>bV.Z22 N a b c d e f g h i k) (f77t22 N a b c d e f g h i _) (c6 λa b c d e f g h i=>f77t30 N a b c d e f g h i K)
def f77t19 N c a b d e f j g h i (K:KT J):=vQ (λk=>bV.Z20 N c a b d e f j g h i k (λa b=>K (.exit 2) (qw a b))) (f77t20 N c a b d e f j g h i _) (c6 λc a b d e f g h i=>f77t21 N c a b d e f g h i K)
def f77t17 N a b c d e f g h i (K:KT J):=vQ (λk=>bV.Z18 N a b c d e f g h i k) (f77t18 N a b c d e f g h i _) (cJ λa b c d e f j g h i=>f77t19 N a b c d e f j g h i K)
def f77t16L N (K:KT J):=oY K (bV.Z16L N (λa b=>K (.exit 2) (qw a b))) (λc a b d e f g h i k=>bV.Z17 N c a b d e f g h i k (λa b=>K (.exit 2) (qw a b))) (λF c a b d e f g h i=>f77t17 N c a b d e f g h i _) (by kernel_rfl)
def f77t16 N a b c d e f g h i (K:KT J):=vL (jp a b c d e f g h i) (f77t16L N (jK B8 K) N a b c d e f g h i) (by kernel_rfl)
def f77t15 N c a b d e f g h i (K:KT J):=vB 2 B8 K (bV.Z15 N c a b d e f g h i (λa b=>K .nrm (qw a b))) (f77t16 N c a b d e f g h i _) (by kernel_rfl)
def f77t13 N a b c d e f (K:KT J):=vQ (λk=>bV.Z14 N a b c d e f k) (f77t14 N a b c d e f _) (c6 λa b c g h i d e f=>f77t15 N a b c g h i d e f K)
def f77t31 N a b (K:KT J):iO N 63 (qw a b) f77lE K =
 bV.Z31 N a b (λc=>K .ret (qx c)):=by kernel_rfl
def f77t12 N c a b d e f (K:KT J):=vQ (λk=>bV.Z13 N c a b d e f k) (f77t13 N c a b d e f _) (cX λa b=>f77t31 N a b K)
def f77t6 N a b c d e f (K:KT J):=vQ (λk=>bV.Z7 N a b c d e f k (λg=>K .ret (qx g))) (f77t7 N a b c d e f _) (cC λa b c d e f=>f77t12 N a b c d e f K)
def f77t4 N a b c d e (K:KT J):=vQ (λk=>bV.Z5 N a b c d e k) (f77t5 N a b c d e _) (cC λa b f c d e=>f77t6 N a b f c d e K)
def f77t2 N a b c d (K:KT J):=vQ (λk=>bV.Z3 N a b c d k) (f77t3 N a b c d _) (bO λe a b c d=>f77t4 N e a b c d K)
def f77t0 N b a (K:KT J):=vQ (λk=>bV.Z1 N b a k) (f77t1 N b a _) (dn λa c d e=>f77t2 N a c d e K)
def f77ok(h:bV.Spec):av Tryz.prog 77 B7 :=
 bu Tryz.func77 bq f77GOk (λN X K=>f77t0 N X.1 X.2.1 K) (by kernel_rfl) λX hb hp=>by obtain⟨a,b,_⟩:=X;obtain⟨N,h⟩:=h a b hb.1 hb.2.1 hp;exact⟨N,Eq.trans (by kernel_rfl) (h N (Nat.le_refl N))⟩
def e77ok:av Tryz.prog 77 B7:=f77ok bV.ok
def f78sig:aW:=⟨[⟨.sl 9 (.str),false,true⟩],[]⟩
def B9:aK:=⟨f78sig,(some λX=>kA.P X.1),λX=>((kA.g X.1),())⟩
def z01:Go.Shelf.Ren:=⟨λ|190=>78|125=>94|258=>111|128=>130|129=>131|302=>144|303=>145|304=>146|305=>147|306=>148|307=>149|308=>150|309=>151|310=>152|333=>175|329=>161|330=>162|334=>176|335=>177|336=>178|344=>193|n=>n,λ|31=>70|9=>9|3=>3|46=>96|0=>0|51=>130|53=>132|4=>4|183=>123|182=>122|131=>127|5=>5|218=>150|222=>120|228=>173|229=>174|n=>n,λn=>n⟩
def f78lay:Lays.n190 Tryz.prog z01:={ mixed:=(by kernel_rfl),f125:=Tryz.func94.trans (congrArg some (by kernel_rfl)),f128:=Tryz.func130.trans (congrArg some (by kernel_rfl)),f129:=Tryz.func131.trans (congrArg some (by kernel_rfl)),f190:=Tryz.func78.trans (congrArg some (by kernel_rfl)),f258:=Tryz.func111.trans (congrArg some (by kernel_rfl)),f302:=Tryz.func144.trans (congrArg some (by kernel_rfl)),f303:=Tryz.func145.trans (congrArg some (by kernel_rfl)),f304:=Tryz.func146.trans (congrArg some (by kernel_rfl)),f305:=Tryz.func147.trans (congrArg some (by kernel_rfl)),f306:=Tryz.func148.trans (congrArg some (by kernel_rfl)),f307:=Tryz.func149.trans (congrArg some (by kernel_rfl)),f308:=Tryz.func150.trans (congrArg some (by kernel_rfl)),f309:=Tryz.func151.trans (congrArg some (by kernel_rfl)),f310:=Tryz.func152.trans (congrArg some (by kernel_rfl)),f329:=Tryz.func161.trans (congrArg some (by kernel_rfl)),f330:=Tryz.func162.trans (congrArg some (by kernel_rfl)),f333:=Tryz.func175.trans (congrArg some (by kernel_rfl)),f334:=Tryz.func176.trans (congrArg some (by kernel_rfl)),f335:=Tryz.func177.trans (congrArg some (by kernel_rfl)),f336:=Tryz.func178.trans (congrArg some (by kernel_rfl)),f344:=Tryz.func193.trans (congrArg some (by kernel_rfl)),t0:=Tryz.underlying0,a0:=Tryz.isAgg0,z0:=Tryz.sizeOf0,v0:=Tryz.zeroValue0,t3:=Tryz.underlying3,a3:=Tryz.isAgg3,z3:=Tryz.sizeOf3,v3:=Tryz.zeroValue3,t4:=Tryz.underlying4,a4:=Tryz.isAgg4,z4:=Tryz.sizeOf4,v4:=Tryz.zeroValue4,t5:=Tryz.underlying5,a5:=Tryz.isAgg5,z5:=Tryz.sizeOf5,v5:=Tryz.zeroValue5,t9:=Tryz.underlying9,a9:=Tryz.isAgg9,z9:=Tryz.sizeOf9,v9:=Tryz.zeroValue9,t31:=Tryz.underlying70,a31:=Tryz.isAgg70,z31:=Tryz.sizeOf70,v31:=Tryz.zeroValue70,t46:=Tryz.underlying96,a46:=Tryz.isAgg96,z46:=Tryz.sizeOf96,v46:=Tryz.zeroValue96,t51:=Tryz.underlying130,a51:=Tryz.isAgg130,z51:=Tryz.sizeOf130,v51:=Tryz.zeroValue130,t53:=Tryz.underlying132,a53:=Tryz.isAgg132,z53:=Tryz.sizeOf132,v53:=Tryz.zeroValue132,t131:=Tryz.underlying127,a131:=Tryz.isAgg127,z131:=Tryz.sizeOf127,v131:=Tryz.zeroValue127,t182:=Tryz.underlying122,a182:=Tryz.isAgg122,z182:=Tryz.sizeOf122,v182:=Tryz.zeroValue122,t183:=Tryz.underlying123,a183:=Tryz.isAgg123,z183:=Tryz.sizeOf123,v183:=Tryz.zeroValue123,t218:=Tryz.underlying150,a218:=Tryz.isAgg150,z218:=Tryz.sizeOf150,v218:=Tryz.zeroValue150,t222:=Tryz.underlying120,a222:=Tryz.isAgg120,z222:=Tryz.sizeOf120,v222:=Tryz.zeroValue120,t228:=Tryz.underlying173,a228:=Tryz.isAgg173,z228:=Tryz.sizeOf173,v228:=Tryz.zeroValue173,t229:=Tryz.underlying174,a229:=Tryz.isAgg174,z229:=Tryz.sizeOf174,v229:=Tryz.zeroValue174 }
def f78ok(_:True):av Tryz.prog 78 B9:=Oo f78lay
def e78ok:av Tryz.prog 78 B9:=f78ok kA.ok
def Lu:aW:=⟨[⟨.pair (.int .i64) (.pair (.int .i64) (.sl 3 (.int .i64))),true,false⟩],[⟨.str,false,false⟩]⟩
def Ca:aK:=⟨Lu,none,λX=>((),((bX.g X.1),()))⟩
def Lv:Gm:=aD (aD (aD (aD (aD bi 42 BX) 76 BZ) 77 B7) 78 B9) 79 wH
def f33GOk:aw Tryz.prog Lv:=(((((aw.nil).add e42ok (by kernel_rfl)).add e76ok (by kernel_rfl)).add e77ok (by kernel_rfl)).add e78ok (by kernel_rfl)).add Kj (by kernel_rfl)
def f33lE:ab:=⟨[],[],[],[],[]⟩
def f33s0(a:MT):St:=be Lu.ps (a,())
def Lw(a b:Int)(c:LI):St:=af [(1,xb 1)] [(1,(27,[yi a,yi b,.sn 3 tI c none]))] []
def f33l1:ab:=⟨[1],[1],[],[],[]⟩
def Lx(a:LM)(b:Bool):St:=af [(3,xo 1000192),(4,xB b)] [] [(1000192,(⟨27,tM 3,a,true,false⟩:ac))]
def f33l2:ab:=⟨[3,4],[],[],[],[(⟨false,3,0⟩,1000192)]⟩
def Ly(a:LM):St:=af [(3,xo 1000192)] [] [(1000192,(⟨27,tM 3,a,true,false⟩:ac))]
def f33l3:ab:=⟨[3],[],[],[],[(⟨false,3,0⟩,1000192)]⟩
def kw(a:LM)(b c:Int):St:=af [(19,xo 1001216),(20,xi b),(21,xi c)] [] [(1001216,(⟨27,tM 3,a,true,false⟩:ac))]
def qy:ab:=⟨[19,20,21],[],[],[],[(⟨false,19,0⟩,1001216)]⟩
def Lz(a:LM)(b c:Int)(d:Bool):St:=af [(19,xo 1001216),(20,xi b),(21,xi c),(22,xB d)] [] [(1001216,(⟨27,tM 3,a,true,false⟩:ac))]
def f33l5:ab:=⟨[19,20,21,22],[],[],[],[(⟨false,19,0⟩,1001216)]⟩
def LA(a:LM)(b c d e:Int)(f:LI):St:=af [(6,xb 6),(19,xo 1001216),(20,xi b),(21,xi c)] [(6,(27,[yi d,yi e,.sn 3 tI f (some 1001216)]))] [(1001216,(⟨27,tM 3,a,true,false⟩:ac))]
def f33l6:ab:=⟨[6,19,20,21],[6],[],[],[(⟨false,19,0⟩,1001216)]⟩
def LB(a:LL)(b:LM)(c:Bool)(d e f g:Int)(h:LI):St:=af [(6,xb 6),(7,xo 1000448),(8,xB c),(19,xo 1001216),(20,xi d),(21,xi e)] [(6,(27,[yi f,yi g,.sn 3 tI h (some 1001216)]))] [(1000448,(⟨22,.sl 3 tI,a,true,false⟩:ac)),(1001216,(⟨27,tM 3,b,true,false⟩:ac))]
def f33l7:ab:=⟨[6,7,8,19,20,21],[6],[],[],[(⟨false,7,0⟩,1000448),(⟨false,19,0⟩,1001216)]⟩
def LC(a:LL)(b:LM)(c d:Int)(e:LI):St:=af [(6,xb 6),(7,xo 1000448),(19,xo 1001216)] [(6,(27,[yi c,yi d,.sn 3 tI e (some 1001216)]))] [(1000448,(⟨22,.sl 3 tI,a,true,false⟩:ac)),(1001216,(⟨27,tM 3,b,true,false⟩:ac))]
def f33l8:ab:=⟨[6,7,19],[6],[],[],[(⟨false,7,0⟩,1000448),(⟨false,19,0⟩,1001216)]⟩
def LD(a:LL)(b:LM)(d e:Int)(f:LI):St:=af [(6,xb 6),(7,xo 1000448),(9,.c (.nil)),(19,xo 1001216)] [(6,(27,[yi d,yi e,.sn 3 tI f (some 1001216)]))] [(1000448,(⟨22,.sl 3 tI,a,true,false⟩:ac)),(1001216,(⟨27,tM 3,b,true,false⟩:ac))]
def f33l9:ab:=⟨[6,7,9,19],[6],[],[],[(⟨false,7,0⟩,1000448),(⟨false,19,0⟩,1001216)]⟩
def LE(a:LM)(b:LL)(d e f g:Int)(h:LI):St:=af [(6,xb 6),(9,.c (.nil)),(19,xo 1001216),(32,xo 1002048),(33,xi d),(34,xi e)] [(6,(27,[yi f,yi g,.sn 3 tI h (some 1001216)]))] [(1001216,(⟨27,tM 3,a,true,false⟩:ac)),(1002048,(⟨22,.sl 3 tI,b,true,false⟩:ac))]
def f33l10:ab:=⟨[6,9,19,32,33,34],[6],[],[],[(⟨false,19,0⟩,1001216),(⟨false,32,0⟩,1002048)]⟩
def LF(a:List ByteArray)(b:LM)(c:LL)(d e f g:Int)(h:LI):St:=af [(6,xb 6),(9,xo 1000576),(19,xo 1001216),(32,xo 1002048),(33,xi d),(34,xi e)] [(6,(27,[yi f,yi g,.sn 3 tI h (some 1001216)]))] [(1000576,(⟨9,.str,a,true,false⟩:ac)),(1001216,(⟨27,tM 3,b,true,false⟩:ac)),(1002048,(⟨22,.sl 3 tI,c,true,false⟩:ac))]
def f33l11:ab:=⟨[6,9,19,32,33,34],[6],[⟨⟨false,9,0⟩,30000000,9,.str,true⟩],[],[(⟨false,9,0⟩,1000576),(⟨false,19,0⟩,1001216),(⟨false,32,0⟩,1002048)]⟩
def td(a:List ByteArray):St:=af [(9,xo 1000576)] [] [(1000576,(⟨9,.str,a,true,false⟩:ac))]
def Cb:ab:=⟨[9],[],[],[],[(⟨false,9,0⟩,1000576)]⟩
def qz :St:=af [] [] []
def Cc:ab:=⟨[],[],[],[],[]⟩
def ky(a:ByteArray):St:=af [(2,.c (.str a))] [] []
def f33l14:ab:=⟨[2],[],[],[],[]⟩
def f33B:Nat->Option ab:=az [(2,Cb),(1,qy),(0,Cc),(1000000,f33l14)]
abbrev gL{J:Type}(N n:Nat)(U:St)(l:ab)(K:KT J):Option J:=an Lv bm f33B N (a8 99 (bn Tryz.f33) n) .n U (ay (some l) K)
def f33t1 N a (K:KT J):gL N 2 (f33s0 a) f33l1 K =
 bX.Z1 N a (λb c d=>K .nrm (Lw b c d)):=by kernel_rfl
def f33t3 N a b c (K:KT J):gL N 5 (Lw a b c) f33l2 K =
 bX.Z3 N a b c (λd e=>K .nrm (Lx d e)):=by kernel_rfl
def f33t5 N a b (K:KT J):gL N 11 (Lx a b) f33l3 K =
 bX.Z5 N a b (λa=>K .nrm (Ly a)) (λc=>K .ret (ky c)):=by kernel_rfl
def f33t8 N a (K:KT J):gL N 39 (Ly a) qy K =
 bX.Z8 N a (λb c d=>K .nrm (kw b c d)):=by kernel_rfl
def f33t12 N a b c (K:KT J):gL N 279 (kw a b c) f33l5 K =
 bX.Z12 N a b c (λa b c d=>K .nrm (Lz a b c d)):=by kernel_rfl
def f33t14 N a b c d (K:KT J):gL N 663 (Lz a b c d) qy K =
 bX.Z14 N a b c d (λa b c=>K .nrm (kw a b c)) (K (.exit 0) qz):=by kernel_rfl
def f33t18 N a b c (K:KT J):gL N 4503 (kw a b c) f33l6 K =
 bX.Z18 N a b c (λa b c d e f=>K .nrm (LA a b c d e f)):=by kernel_rfl
def f33t20 N a b c d e f (K:KT J):gL N 10647 (LA a b c d e f) f33l7 K =
 bX.Z20 N a b c d e f (λg a h b c d e f=>K .nrm (LB g a h b c d e f)):=by kernel_rfl
def f33t22 N b a h c d e f g (K:KT J):gL N 22935 (LB b a h c d e f g) f33l8 K =
 bX.Z22 N b a h c d e f g (λb a e f g=>K .nrm (LC b a e f g)) (λa c d=>K (.exit 1) (kw a c d)):=by kernel_rfl
def f33t24 N a b c d e (K:KT J):gL N 47511 (LC a b c d e) f33l9 K =
 bX.Z24 N a b c d e (λa b c d e=>K .nrm (LD a b c d e)):=by kernel_rfl
def f33t27 N e a b c d (K:KT J):gL N 162199 (LD e a b c d) f33l10 K =
 bX.Z27 N e a b c d (λa f g h b c d=>K .nrm (LE a f g h b c d)):=by kernel_rfl
def f33t30 N a b c d e f g h (K:KT J):gL N 620951 (LF a b c d e f g h) f33l11 K =
 bX.Z30 N a b c d e f g h (λa b c d e f g h=>K .nrm (LF a b c d e f g h)) (λa=>K (.exit 2) (td a)):=by kernel_rfl
def f33t29L N (K:KT J):=lO K (bX.Z29L N (λa=>K (.exit 2) (td a))) (λa b c d e f g h k=>bX.Z30 N a b c d e f g h k (λa=>K (.exit 2) (td a))) (λF a b c d e f g h=>f33t30 N a b c d e f g h _) (by kernel_rfl)
def f33t29 N a b c d e f g (K:KT J):=vL (LE a b c d e f g) (f33t29L N (jK Cb K) N ([]:List ByteArray) a b c d e f g) (by kernel_rfl)
def f33t28 N a b c d e f g (K:KT J):=vB 2 Cb K (bX.Z28 N a b c d e f g (λh=>K .nrm (td h))) (f33t29 N a b c d e f g _) (by kernel_rfl)
def f33t26 N e a b c d (K:KT J):=vQ (λk=>bX.Z27 N e a b c d k) (f33t27 N e a b c d _) (eC λa f g h b c d=>f33t28 N a f g h b c d K)
def f33t31 N a (K:KT J):gL N 129431 (td a) qy K =
 bX.Z31 N a (λb=>K .ret (ky b)):=by kernel_rfl
def f33t25 N a b c d e (K:KT J):=vQ (λk=>bX.Z26 N a b c d e k) (f33t26 N a b c d e _) (funext λf=>f33t31 N f K)
def f33t23 N a b c d e (K:KT J):=vQ (λk=>bX.Z24 N a b c d e k) (f33t24 N a b c d e _) (bO λa b c d e=>f33t25 N a b c d e K)
def f33t21 N b a h c d e f g (K:KT J):=vQ (λk=>bX.Z22 N b a h c d e f g k (λa c d=>K (.exit 1) (kw a c d))) (f33t22 N b a h c d e f g _) (bO λb a e f g=>f33t23 N b a e f g K)
def f33t19 N a b c d e f (K:KT J):=vQ (λk=>bX.Z20 N a b c d e f k) (f33t20 N a b c d e f _) (eX λg a h b c d e f=>f33t21 N g a h b c d e f K)
def f33t17 N a b c (K:KT J):=vQ (λk=>bX.Z18 N a b c k) (f33t18 N a b c _) (cC λa b c d e f=>f33t19 N a b c d e f K)
def f33t16 N a b c (K:KT J):=vB 1 qy K (bX.Z16 N a b c (λa b c=>K .nrm (kw a b c)) (λd=>K .ret (ky d))) (f33t17 N a b c _) (by kernel_rfl)
def f33t32 N a b c (K:KT J):gL N 1943 (kw a b c) qy K =
 bX.Z32 N a b c (λa b c=>K .nrm (kw a b c)):=by kernel_rfl
def f33t15 N a b c (K:KT J):=vQ (λk=>bX.Z16 N a b c k (λd=>K .ret (ky d))) (f33t16 N a b c _) (bZ λa b c=>f33t32 N a b c K)
def f33t13 N a b c d (K:KT J):=vQ (λk=>bX.Z14 N a b c d k (K (.exit 0) qz)) (f33t14 N a b c d _) (bZ λa b c=>f33t15 N a b c K)
def f33t11 N a b c (K:KT J):=vQ (λk=>bX.Z12 N a b c k) (f33t12 N a b c _) (dn λa b c d=>f33t13 N a b c d K)
def f33t10L N (K:KT J):=gS K (bX.Z10L N (K (.exit 0) qz) (λa=>K .ret (ky a))) (λb c d k=>bX.Z11 N b c d k (K (.exit 0) qz) (λa=>K .ret (ky a))) (λF b c d=>f33t11 N b c d _) (by kernel_rfl)
def f33t10 N a b c (K:KT J):=vL (kw a b c) (f33t10L N (jK Cc K) N a b c) (by kernel_rfl)
def f33t9 N a b c (K:KT J):=vB 0 Cc K (bX.Z9 N a b c (K .nrm qz) (λd=>K .ret (ky d))) (f33t10 N a b c _) (by kernel_rfl)
def f33t7 N a (K:KT J):=vQ (λk=>bX.Z8 N a k) (f33t8 N a _) (bZ λb c d=>f33t9 N b c d K)
def f33t33 N  (K:KT J):gL N 31 qz f33lE K =
 bX.Z33 N (λa=>K .ret (ky a)):=by kernel_rfl
def f33t6 N a (K:KT J):=vQ (λk=>bX.Z7 N a k (λb=>K .ret (ky b))) (f33t7 N a _) (f33t33 N K)
def f33t4 N a b (K:KT J):=vQ (λk=>bX.Z5 N a b k (λc=>K .ret (ky c))) (f33t5 N a b _) (funext λa=>f33t6 N a K)
def f33t2 N a b c (K:KT J):=vQ (λk=>bX.Z3 N a b c k) (f33t3 N a b c _) (cX λd e=>f33t4 N d e K)
def f33t0 N a (K:KT J):=vQ (λk=>bX.Z1 N a k) (f33t1 N a _) (bZ λb c d=>f33t2 N b c d K)
def f33ok(h:bX.Spec):av Tryz.prog 33 Ca :=
 bu Tryz.func33 bq f33GOk (λN X K=>f33t0 N X.1 K) (by kernel_rfl) λX hb hp=>by obtain⟨a,_⟩:=X;obtain⟨N,h⟩:=h a hb.1;exact⟨N,Eq.trans (by kernel_rfl) (h N (Nat.le_refl N))⟩
def e33ok:av Tryz.prog 33 Ca:=f33ok bX.ok
def LG:aW:=⟨[⟨.sl 3 (.int .i64),false,false⟩,⟨.sl 3 (.int .i64),false,false⟩],[⟨.bool,false,false⟩]⟩
def Cd:aK:=⟨LG,none,λX=>((),((eU.g X.1 X.2.1),()))⟩
def LH:Gm:=bi
def f43GOk:aw Tryz.prog LH:=aw.nil
def f43lE:ab:=⟨[],[],[],[],[]⟩
def f43s0(a b:LI):St:=be LG.ps (a,(b,()))
def wU(a b:LI):St:=af [(0,.c (.sn 3 tI a none)),(1,.c (.sn 3 tI b none))] [] []
def LJ:ab:=⟨[0,1],[],[],[],[]⟩
def wV(a b:LI)(d:Int):St:=af [(0,.c (.sn 3 tI a none)),(1,.c (.sn 3 tI b none)),(5,xi d)] [] []
def LK:ab:=⟨[0,1,5],[],[],[],[]⟩
def tf :St:=af [] [] []
def Ce:ab:=⟨[],[],[],[],[]⟩
def mH(a:Bool):St:=af [(4,xB a)] [] []
def f43l4:ab:=⟨[4],[],[],[],[]⟩
def f43B:Nat->Option ab:=az [(0,Ce),(1000000,f43l4)]
abbrev tg{J:Type}(N n:Nat)(U:St)(l:ab)(K:KT J):Option J:=an LH bm f43B N (a8 99 (bn Tryz.f43) n) .n U (ay (some l) K)
def f43t1 N a b (K:KT J):tg N 2 (f43s0 a b) LJ K =
 eU.Z1 N a b (λa b=>K .nrm (wU a b)):=by kernel_rfl
def f43t3 N a b (K:KT J):tg N 5 (wU a b) LJ K =
 eU.Z3 N a b (λa b=>K .nrm (wU a b)) (λc=>K .ret (mH c)):=by kernel_rfl
def f43t6 N a b (K:KT J):tg N 19 (wU a b) LK K =
 eU.Z6 N a b (λa b c=>K .nrm (wV a b c)):=by kernel_rfl
def f43t9 N a b c (K:KT J):tg N 75 (wV a b c) LK K =
 eU.Z9 N a b c (λa b c=>K .nrm (wV a b c)) (K (.exit 0) tf) (λd=>K .ret (mH d)):=by kernel_rfl
def f43t8L N (K:KT J):=gS K (eU.Z8L N (K (.exit 0) tf) (λa=>K .ret (mH a))) (λb c d k=>eU.Z9 N b c d k (K (.exit 0) tf) (λa=>K .ret (mH a))) (λF b c d=>f43t9 N b c d _) (by kernel_rfl)
def f43t8 N a b c (K:KT J):=vL (wV a b c) (f43t8L N (jK Ce K) N a b c) (by kernel_rfl)
def f43t7 N a b c (K:KT J):=vB 0 Ce K (eU.Z7 N a b c (K .nrm tf) (λd=>K .ret (mH d))) (f43t8 N a b c _) (by kernel_rfl)
def f43t5 N a b (K:KT J):=vQ (λk=>eU.Z6 N a b k) (f43t6 N a b _) (bZ λa b c=>f43t7 N a b c K)
def f43t10 N  (K:KT J):tg N 15 tf f43lE K =
 eU.Z10 N (λa=>K .ret (mH a)):=by kernel_rfl
def f43t4 N a b (K:KT J):=vQ (λk=>eU.Z5 N a b k (λc=>K .ret (mH c))) (f43t5 N a b _) (f43t10 N K)
def f43t2 N a b (K:KT J):=vQ (λk=>eU.Z3 N a b k (λc=>K .ret (mH c))) (f43t3 N a b _) (cX λa b=>f43t4 N a b K)
def f43t0 N a b (K:KT J):=vQ (λk=>eU.Z1 N a b k) (f43t1 N a b _) (cX λa b=>f43t2 N a b K)
def f43ok(h:eU.Spec):av Tryz.prog 43 Cd :=
 bu Tryz.func43 bq f43GOk (λN X K=>f43t0 N X.1 X.2.1 K) (by kernel_rfl) λX hb hp=>by obtain⟨a,b,_⟩:=X;obtain⟨N,h⟩:=h a b hb.1 hb.2.1;exact⟨N,Eq.trans (by kernel_rfl) (h N (Nat.le_refl N))⟩
def e43ok:av Tryz.prog 43 Cd:=f43ok eU.ok
def LN:aW:=⟨[⟨.pair (.int .i64) (.pair (.int .i64) (.sl 3 (.int .i64))),true,false⟩,⟨.pair (.int .i64) (.pair (.int .i64) (.sl 3 (.int .i64))),true,false⟩],[⟨.bool,false,false⟩]⟩
def Cf:aK:=⟨LN,none,λX=>((),((lu.g X.1 X.2.1),()))⟩
def LO:Gm:=aD bi 43 Cd
def f13GOk:aw Tryz.prog LO:=(aw.nil).add e43ok (by kernel_rfl)
def f13lE:ab:=⟨[],[],[],[],[]⟩
def f13s0(a b:MT):St:=be LN.ps (a,(b,()))
def f13s1(a:Bool):St:=af [(4,xB a)] [] []
def f13l1:ab:=⟨[4],[],[],[],[]⟩
def f13B:Nat->Option ab:=az [(1000000,f13l1)]
abbrev f13j{J:Type}(N n:Nat)(U:St)(l:ab)(K:KT J):Option J:=an LO bm f13B N (a8 99 (bn Tryz.f13) n) .n U (ay (some l) K)
def f13t0 N a b (K:KT J):f13j N 1 (f13s0 a b) f13lE K =
 lu.Z0 N a b (λc=>K .ret (f13s1 c)):=by kernel_rfl
def f13ok(h:lu.Spec):av Tryz.prog 13 Cf :=
 bu Tryz.func13 bq f13GOk (λN X K=>f13t0 N X.1 X.2.1 K) (by kernel_rfl) λX hb hp=>by obtain⟨a,b,_⟩:=X;obtain⟨N,h⟩:=h a b hb.1 hb.2.1;exact⟨N,Eq.trans (by kernel_rfl) (h N (Nat.le_refl N))⟩
def e13ok:av Tryz.prog 13 Cf:=f13ok lu.ok
def LP:aW:=⟨[⟨.pair (.int .i64) (.pair (.int .i64) (.sl 3 (.int .i64))),true,false⟩],[⟨.bool,false,false⟩]⟩
def e6:aK:=⟨LP,none,λX=>((),((og.g X.1),()))⟩
def LQ:Gm:=aD (aD (aD (aD (aD bi 9 e9) 11 An) 13 Cf) 32 Bc) 33 Ca
def f6GOk:aw Tryz.prog LQ:=(((((aw.nil).add QQ (by kernel_rfl)).add Ro (by kernel_rfl)).add e13ok (by kernel_rfl)).add e32ok (by kernel_rfl)).add e33ok (by kernel_rfl)
def f6lE:ab:=⟨[],[],[],[],[]⟩
def f6s0(a:MT):St:=be LP.ps (a,())
def f6s1(a:Bool):St:=af [(2,xB a)] [] []
def f6l1:ab:=⟨[2],[],[],[],[]⟩
def f6B:Nat->Option ab:=az [(1000000,f6l1)]
abbrev f6j{J:Type}(N n:Nat)(U:St)(l:ab)(K:KT J):Option J:=an LQ bm f6B N (a8 99 (bn Tryz.f6) n) .n U (ay (some l) K)
def f6t0 N a (K:KT J):f6j N 1 (f6s0 a) f6lE K =
 og.Z0 N a (λb=>K .ret (f6s1 b)):=by kernel_rfl
def f6ok(h:og.Spec):av Tryz.prog 6 e6 :=
 bu Tryz.func6 bq f6GOk (λN X K=>f6t0 N X.1 K) (by kernel_rfl) λX hb hp=>by obtain⟨a,_⟩:=X;obtain⟨N,h⟩:=h a hb.1;exact⟨N,Eq.trans (by kernel_rfl) (h N (Nat.le_refl N))⟩
def e6ok:av Tryz.prog 6 e6:=f6ok og.ok
end Go.Fw
