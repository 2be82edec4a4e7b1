/- The ties: the program's text comes to the plain functions. Nothing is assumed. -/
import Derived.Test.YtakkbbpdfmkbnaaPuFnColoursc
import Derived.Test.YtakkbbpdfmkbnaaTiFnColoursa
noncomputable section
set_option linter.defProp false
set_option linter.unusedSectionVars false
set_option linter.unusedVariables false
set_option linter.unusedSimpArgs false
set_option maxRecDepth 100000
namespace Go.Fw
variable {J : Type}
open Go.Proofs
def GB:bC:=⟨[⟨.pair (.int .i64) (.pair (.int .i64) (.sl 3 (.int .i64))),true,false⟩,⟨.sl 3 (.int .i64),false,false⟩],[⟨.sl 26 (.pair (.int .i64) (.pair (.int .i64) (.sl 3 (.int .i64)))),false,false⟩,⟨.bool,false,false⟩]⟩
def rA:a8:=⟨GB,none,λX=>((),((aZ.g X.1 X.2.1).1,((aZ.g X.1 X.2.1).2,())))⟩
def GC:Gm:=aY (aY bk 30 zN) 40 uL
def f57GOk:au Try.prog GC:=((au.nil).add e30ok (by kernel_rfl)).add GA (by kernel_rfl)
def f57lE:aa:=⟨[],[],[],[],[]⟩
def f57s0(a:MT)(b:LI):St:=bH GB.ps (a,(b,()))
def GD(a:LI)(b d:Int)(e:LI):St:=ah [(1,.c (.sn 3 tI a none)),(2,xb 2)] [(2,(26,[yi b,yi d,.sn 3 tI e none]))] []
def f57l1:aa:=⟨[1,2],[2],[],[],[]⟩
def GE(a b:LI)(d:Bool)(e f:Int):St:=ah [(1,.c (.sn 3 tI b none)),(6,xb 6),(7,xB d)] [(6,(26,[yi e,yi f,.own 20000386]))] [(20000386,(⟨3,.int .i64,a,true,false⟩:ac))]
def f57l2:aa:=⟨[1,6,7],[6],[],[],[(⟨true,6,2⟩,20000386)]⟩
def GF(a b:LI)(d e:Int):St:=ah [(1,.c (.sn 3 tI b none)),(6,xb 6)] [(6,(26,[yi d,yi e,.own 20000386]))] [(20000386,(⟨3,.int .i64,a,true,false⟩:ac))]
def f57l3:aa:=⟨[1,6],[6],[],[],[(⟨true,6,2⟩,20000386)]⟩
def GG(a:LM)(b:LI)(d e:Int)(f:LI):St:=ah [(1,.c (.sn 3 tI b none)),(6,xb 6),(8,xo 1000512)] [(6,(26,[yi d,yi e,.sn 3 tI f (some 1000512)]))] [(1000512,(⟨26,tM 3,a,true,false⟩:ac))]
def f57l4:aa:=⟨[1,6,8],[6],[],[],[(⟨false,8,0⟩,1000512)]⟩
def uM(a:LM)(b:LI)(d e f g:Int)(h:LI):St:=ah [(6,xb 6),(8,xo 1000512),(25,.c (.sn 3 tI b none)),(26,xi d),(27,xi e)] [(6,(26,[yi f,yi g,.sn 3 tI h (some 1000512)]))] [(1000512,(⟨26,tM 3,a,true,false⟩:ac))]
def GH:aa:=⟨[6,8,25,26,27],[6],[],[],[(⟨false,8,0⟩,1000512)]⟩
def rB(a:LM):St:=ah [(8,xo 1000512)] [] [(1000512,(⟨26,tM 3,a,true,false⟩:ac))]
def zT:aa:=⟨[8],[],[],[],[(⟨false,8,0⟩,1000512)]⟩
def lK(a:LM)(b:Bool):St:=ah [(4,xo 1000256),(5,xB b)] [] [(1000256,(⟨26,tM 3,a,true,false⟩:ac))]
def f57l7:aa:=⟨[4,5],[],[⟨⟨false,4,0⟩,30000000,26,.pair (.int .i64) (.pair (.int .i64) (.sl 3 (.int .i64))),true⟩],[],[(⟨false,4,0⟩,1000256)]⟩
def f57B:Nat->Option aa:=aA [(0,zT),(1000000,f57l7)]
abbrev mY{J:Type}(N n:Nat)(V:St)(l:aa)(K:KT J):Option J:=ak GC bm f57B N (bf 99 (bu Try.f57) n) .n V (ax (some l) K)
def f57t1 N b a (K:KT J):mY N 2 (f57s0 b a) f57l1 K =
 aZ.Z1 N b a (λa c d e=>K .nrm (GD a c d e)):=by kernel_rfl
def f57t3 N a b c d (K:KT J):mY N 5 (GD a b c d) f57l2 K =
 aZ.Z3 N a b c d (λe a f g h=>K .nrm (GE e a f g h)):=by kernel_rfl
def f57t5 N a b e c d (K:KT J):mY N 11 (GE a b e c d) f57l3 K =
 aZ.Z5 N a b e c d (λa b c d=>K .nrm (GF a b c d)) (λf g=>K .ret (lK f g)):=by kernel_rfl
def f57t7 N a b c d (K:KT J):mY N 23 (GF a b c d) f57l4 K =
 aZ.Z7 N a b c d (λe b c d a=>K .nrm (GG e b c d a)):=by kernel_rfl
def f57t10 N a e b c d (K:KT J):mY N 79 (GG a e b c d) GH K =
 aZ.Z10 N a e b c d (λa f g h b c d=>K .nrm (uM a f g h b c d)):=by kernel_rfl
def f57t13 N a b c d e f g (K:KT J):mY N 303 (uM a b c d e f g) GH K =
 aZ.Z13 N a b c d e f g (λa b c d e f g=>K .nrm (uM a b c d e f g)) (λa=>K (.exit 0) (rB a)) (λh i=>K .ret (lK h i)):=by kernel_rfl
def f57t12L N (K:KT J):=nT K (aZ.Z12L N (λa=>K (.exit 0) (rB a)) (λb c=>K .ret (lK b c))) (λa d e f g h i k=>aZ.Z13 N a d e f g h i k (λa=>K (.exit 0) (rB a)) (λb c=>K .ret (lK b c))) (λF a d e f g h i=>f57t13 N a d e f g h i _) (by kernel_rfl)
def f57t12 N a b c d e f g (K:KT J):=vL (uM a b c d e f g) (f57t12L N (jK zT K) N a b c d e f g) (by kernel_rfl)
def f57t11 N a b c d e f g (K:KT J):=vB 0 zT K (aZ.Z11 N a b c d e f g (λa=>K .nrm (rB a)) (λh i=>K .ret (lK h i))) (f57t12 N a b c d e f g _) (by kernel_rfl)
def f57t9 N a e b c d (K:KT J):=vQ (λk=>aZ.Z10 N a e b c d k) (f57t10 N a e b c d _) (gV λa f g h b c d=>f57t11 N a f g h b c d K)
def f57t14 N a (K:KT J):mY N 63 (rB a) f57lE K =
 aZ.Z14 N a (λb c=>K .ret (lK b c)):=by kernel_rfl
def f57t8 N a b c d e (K:KT J):=vQ (λk=>aZ.Z9 N a b c d e k (λf g=>K .ret (lK f g))) (f57t9 N a b c d e _) (funext λa=>f57t14 N a K)
def f57t6 N a b c d (K:KT J):=vQ (λk=>aZ.Z7 N a b c d k) (f57t7 N a b c d _) (cN λe b c d a=>f57t8 N e b c d a K)
def f57t4 N a b e c d (K:KT J):=vQ (λk=>aZ.Z5 N a b e c d k (λf g=>K .ret (lK f g))) (f57t5 N a b e c d _) (d9 λa b c d=>f57t6 N a b c d K)
def f57t2 N a b c d (K:KT J):=vQ (λk=>aZ.Z3 N a b c d k) (f57t3 N a b c d _) (cN λe a f g h=>f57t4 N e a f g h K)
def f57t0 N b a (K:KT J):=vQ (λk=>aZ.Z1 N b a k) (f57t1 N b a _) (d9 λa c d e=>f57t2 N a c d e K)
def f57ok(h:aZ.Spec):aG Try.prog 57 rA :=
 bQ Try.func57 bv f57GOk (λN X K=>f57t0 N X.1 X.2.1 K) (by kernel_rfl) λX hb hp=>by obtain⟨a,b,_⟩:=X;obtain⟨N,h⟩:=h a b hb.1 hb.2.1;exact⟨N,Eq.trans (by kernel_rfl) (h N (Nat.le_refl N))⟩
def zU:aG Try.prog 57 rA:=f57ok aZ.ok
def GI:bC:=⟨[⟨.pair (.int .i64) (.pair (.int .i64) (.sl 3 (.int .i64))),true,false⟩],[⟨.sl 24 (.sl 3 (.int .i64)),false,false⟩]⟩
def zV:a8:=⟨GI,(some λX=>cp.P X.1),λX=>((),((cp.g X.1),()))⟩
def GJ:Gm:=aY bk 60 mW
def f58GOk:au Try.prog GJ:=(au.nil).add rj (by kernel_rfl)
def f58lE:aa:=⟨[],[],[],[],[]⟩
def f58s0(a:MT):St:=bH GI.ps (a,())
def GK(a b:Int)(c:LI):St:=ah [(1,xb 1)] [(1,(26,[yi a,yi b,.sn 3 tI c none]))] []
def f58l1:aa:=⟨[1],[1],[],[],[]⟩
def GL(a b:Int)(d:LI):St:=ah [(1,xb 1),(3,.c (.nil))] [(1,(26,[yi a,yi b,.sn 3 tI d none]))] []
def f58l2:aa:=⟨[1,3],[1],[],[],[]⟩
def GM(a b d:Int)(e:LI):St:=ah [(1,xb 1),(3,.c (.nil)),(4,xi a)] [(1,(26,[yi b,yi d,.sn 3 tI e none]))] []
def f58l3:aa:=⟨[1,3,4],[1],[],[],[]⟩
def rC(a:LL)(b c d:Int)(e:LI):St:=ah [(1,xb 1),(3,xo 1000192),(4,xi b)] [(1,(26,[yi c,yi d,.sn 3 tI e none]))] [(1000192,(⟨24,.sl 3 tI,a,true,false⟩:ac))]
def uN:aa:=⟨[1,3,4],[1],[],[],[(⟨false,3,0⟩,1000192)]⟩
def GN(a:LL)(b c d:Int)(e:LI):St:=ah [(1,xb 1),(3,xo 1000192),(4,xi b)] [(1,(26,[yi c,yi d,.sn 3 tI e none]))] [(1000192,(⟨24,.sl 3 tI,a,true,false⟩:ac))]
def f58l9:aa:=⟨[1,3,4],[1],[⟨⟨false,3,0⟩,30000000,24,.sl 3 (.int .i64),true⟩],[],[(⟨false,3,0⟩,1000192)]⟩
def GO(a:LL)(b d e:Int)(f:LI):St:=ah [(1,xb 1),(3,xo 1000192),(4,xi b),(5,.c (.nil))] [(1,(26,[yi d,yi e,.sn 3 tI f none]))] [(1000192,(⟨24,.sl 3 tI,a,true,false⟩:ac))]
def f58l10:aa:=⟨[1,3,4,5],[1],[],[],[(⟨false,3,0⟩,1000192)]⟩
def GP(a:LL)(b d e f:Int)(g:LI):St:=ah [(1,xb 1),(3,xo 1000192),(4,xi b),(5,.c (.nil)),(6,xi d)] [(1,(26,[yi e,yi f,.sn 3 tI g none]))] [(1000192,(⟨24,.sl 3 tI,a,true,false⟩:ac))]
def f58l11:aa:=⟨[1,3,4,5,6],[1],[],[],[(⟨false,3,0⟩,1000192)]⟩
def GQ(a:LL)(b:LI)(c d e f:Int)(g:LI):St:=ah [(1,xb 1),(3,xo 1000192),(4,xi c),(5,xo 1000320),(6,xi d)] [(1,(26,[yi e,yi f,.sn 3 tI g none]))] [(1000192,(⟨24,.sl 3 tI,a,true,false⟩:ac)),(1000320,(⟨3,.int .i64,b,true,false⟩:ac))]
def f58l12:aa:=⟨[1,3,4,5,6],[1],[⟨⟨false,5,0⟩,30000000,3,.int .i64,true⟩],[],[(⟨false,3,0⟩,1000192),(⟨false,5,0⟩,1000320)]⟩
def rD(a:LL)(b:LI)(c d e:Int)(f:LI):St:=ah [(1,xb 1),(3,xo 1000192),(4,xi c),(5,xo 1000320)] [(1,(26,[yi d,yi e,.sn 3 tI f none]))] [(1000192,(⟨24,.sl 3 tI,a,true,false⟩:ac)),(1000320,(⟨3,.int .i64,b,true,false⟩:ac))]
def zW:aa:=⟨[1,3,4,5],[1],[],[],[(⟨false,3,0⟩,1000192),(⟨false,5,0⟩,1000320)]⟩
def oM(a:LL):St:=ah [(3,xo 1000192)] [] [(1000192,(⟨24,.sl 3 tI,a,true,false⟩:ac))]
def zX:aa:=⟨[3],[],[],[],[(⟨false,3,0⟩,1000192)]⟩
def f58s15(a:LL):St:=ah [(2,xo 1000128)] [] [(1000128,(⟨24,.sl 3 tI,a,true,false⟩:ac))]
def f58l15:aa:=⟨[2],[],[],[],[(⟨false,2,0⟩,1000128)]⟩
def f58B:Nat->Option aa:=aA [(2,zW),(1,uN),(0,zX),(1000000,f58l15)]
abbrev jJ{J:Type}(N n:Nat)(V:St)(l:aa)(K:KT J):Option J:=ak GJ bm f58B N (bf 99 (bu Try.f58) n) .n V (ax (some l) K)
def f58t1 N a (K:KT J):jJ N 2 (f58s0 a) f58l1 K =
 cp.Z1 N a (λb c d=>K .nrm (GK b c d)):=by kernel_rfl
def f58t3 N a b c (K:KT J):jJ N 5 (GK a b c) f58l2 K =
 cp.Z3 N a b c (λa b c=>K .nrm (GL a b c)):=by kernel_rfl
def f58t6 N a b c (K:KT J):jJ N 19 (GL a b c) f58l3 K =
 cp.Z6 N a b c (λd a b c=>K .nrm (GM d a b c)):=by kernel_rfl
def f58t10 N a b c d e (K:KT J):jJ N 139 (GN a b c d e) uN K =
 cp.Z10 N a b c d e (λa b c d e=>K .nrm (rC a b c d e)) (λa=>K (.exit 0) (oM a)):=by kernel_rfl
def f58t14 N a b c d e (K:KT J):jJ N 1099 (rC a b c d e) f58l10 K =
 cp.Z14 N a b c d e (λa b c d e=>K .nrm (GO a b c d e)):=by kernel_rfl
def f58t17 N a b c d e (K:KT J):jJ N 4683 (GO a b c d e) f58l11 K =
 cp.Z17 N a b c d e (λa b f c d e=>K .nrm (GP a b f c d e)):=by kernel_rfl
def f58t20 N a b c g d e f (K:KT J):jJ N 19019 (GQ a b c g d e f) f58l12 K =
 cp.Z20 N a b c g d e f (λa b c g d e f=>K .nrm (GQ a b c g d e f)) (λa b c d e f=>K (.exit 2) (rD a b c d e f)):=by kernel_rfl
def f58t19L N (K:KT J):=nT K (cp.Z19L N (λa b c d e f=>K (.exit 2) (rD a b c d e f))) (λa b c g d e f k=>cp.Z20 N a b c g d e f k (λa b c d e f=>K (.exit 2) (rD a b c d e f))) (λF a b c g d e f=>f58t20 N a b c g d e f _) (by kernel_rfl)
def f58t19 N a b c d e f (K:KT J):=vL (GP a b c d e f) (f58t19L N (jK zW K) N a ([]:List Int) b c d e f) (by kernel_rfl)
def f58t18 N a b f c d e (K:KT J):=vB 2 zW K (cp.Z18 N a b f c d e (λa g b c d e=>K .nrm (rD a g b c d e))) (f58t19 N a b f c d e _) (by kernel_rfl)
def f58t16 N a b c d e (K:KT J):=vQ (λk=>cp.Z17 N a b c d e k) (f58t17 N a b c d e _) (da λa b f c d e=>f58t18 N a b f c d e K)
def f58t21 N a f b c d e (K:KT J):jJ N 3659 (rD a f b c d e) uN K =
 cp.Z21 N a f b c d e (λa b c d e=>K .nrm (rC a b c d e)):=by kernel_rfl
def f58t15 N a b c d e (K:KT J):=vQ (λk=>cp.Z16 N a b c d e k) (f58t16 N a b c d e _) (da λa f b c d e=>f58t21 N a f b c d e K)
def f58t13 N a b c d e (K:KT J):=vQ (λk=>cp.Z14 N a b c d e k) (f58t14 N a b c d e _) (cN λa b c d e=>f58t15 N a b c d e K)
def f58t12 N a b c d e (K:KT J):=vB 1 uN K (cp.Z12 N a b c d e (λa b c d e=>K .nrm (rC a b c d e))) (f58t13 N a b c d e _) (by kernel_rfl)
def f58t22 N a b c d e (K:KT J):jJ N 459 (rC a b c d e) f58l9 K =
 cp.Z22 N a b c d e (λa b c d e=>K .nrm (GN a b c d e)):=by kernel_rfl
def f58t11 N a b c d e (K:KT J):=vQ (λk=>cp.Z12 N a b c d e k) (f58t12 N a b c d e _) (cN λa b c d e=>f58t22 N a b c d e K)
def f58t9 N a b c d e (K:KT J):=vQ (λk=>cp.Z10 N a b c d e k (λa=>K (.exit 0) (oM a))) (f58t10 N a b c d e _) (cN λa b c d e=>f58t11 N a b c d e K)
def f58t8L N (K:KT J):=qc K (cp.Z8L N (λa=>K (.exit 0) (oM a))) (λa b c d e k=>cp.Z9 N a b c d e k (λa=>K (.exit 0) (oM a))) (λF a b c d e=>f58t9 N a b c d e _) (by kernel_rfl)
def f58t8 N a b c d (K:KT J):=vL (GM a b c d) (f58t8L N (jK zX K) N ([]:List (LI)) a b c d) (by kernel_rfl)
def f58t7 N a b c d (K:KT J):=vB 0 zX K (cp.Z7 N a b c d (λe=>K .nrm (oM e))) (f58t8 N a b c d _) (by kernel_rfl)
def f58t5 N a b c (K:KT J):=vQ (λk=>cp.Z6 N a b c k) (f58t6 N a b c _) (d9 λd a b c=>f58t7 N d a b c K)
def f58t23 N a (K:KT J):jJ N 15 (oM a) f58lE K =
 cp.Z23 N a (λb=>K .ret (f58s15 b)):=by kernel_rfl
def f58t4 N a b c (K:KT J):=vQ (λk=>cp.Z5 N a b c k) (f58t5 N a b c _) (funext λd=>f58t23 N d K)
def f58t2 N a b c (K:KT J):=vQ (λk=>cp.Z3 N a b c k) (f58t3 N a b c _) (fG λa b c=>f58t4 N a b c K)
def f58t0 N a (K:KT J):=vQ (λk=>cp.Z1 N a k) (f58t1 N a _) (fG λb c d=>f58t2 N b c d K)
def f58ok(h:cp.Spec):aG Try.prog 58 zV :=
 bQ Try.func58 bv f58GOk (λN X K=>f58t0 N X.1 K) (by kernel_rfl) λX hb hp=>by obtain⟨a,_⟩:=X;obtain⟨N,h⟩:=h a hb.1 hp;exact⟨N,Eq.trans (by kernel_rfl) (h N (Nat.le_refl N))⟩
def e58ok:aG Try.prog 58 zV:=f58ok cp.ok
def GR:bC:=⟨[⟨.pair (.int .i64) (.pair (.int .i64) (.sl 3 (.int .i64))),true,false⟩,⟨.sl 3 (.int .i64),false,false⟩],[⟨.sl 24 (.sl 3 (.int .i64)),false,false⟩,⟨.bool,false,false⟩]⟩
def zY:a8:=⟨GR,none,λX=>((),((iu.g X.1 X.2.1).1,((iu.g X.1 X.2.1).2,())))⟩
def GS:Gm:=aY (aY bk 57 rA) 58 zV
def f15GOk:au Try.prog GS:=((au.nil).add zU (by kernel_rfl)).add e58ok (by kernel_rfl)
def f15lE:aa:=⟨[],[],[],[],[]⟩
def f15s0(a:MT)(b:LI):St:=bH GR.ps (a,(b,()))
def f15s1(a:LL)(b:Bool):St:=ah [(4,xo 1000256),(5,xB b)] [] [(1000256,(⟨24,.sl 3 tI,a,true,false⟩:ac))]
def f15l1:aa:=⟨[4,5],[],[⟨⟨false,4,0⟩,30000000,24,.sl 3 (.int .i64),true⟩],[],[(⟨false,4,0⟩,1000256)]⟩
def f15B:Nat->Option aa:=aA [(1000000,f15l1)]
abbrev f15j{J:Type}(N n:Nat)(V:St)(l:aa)(K:KT J):Option J:=ak GS bm f15B N (bf 99 (bu Try.f15) n) .n V (ax (some l) K)
def f15t0 N a b (K:KT J):f15j N 1 (f15s0 a b) f15lE K =
 iu.Z0 N a b (λc d=>K .ret (f15s1 c d)):=by kernel_rfl
def f15ok(h:iu.Spec):aG Try.prog 15 zY :=
 bQ Try.func15 bv f15GOk (λN X K=>f15t0 N X.1 X.2.1 K) (by kernel_rfl) λX hb hp=>by obtain⟨a,b,_⟩:=X;obtain⟨N,h⟩:=h a b hb.1 hb.2.1;exact⟨N,Eq.trans (by kernel_rfl) (h N (Nat.le_refl N))⟩
def e15ok:aG Try.prog 15 zY:=f15ok iu.ok
def GT:bC:=⟨[⟨.int .i64,false,false⟩,⟨.int .i64,false,false⟩],[⟨.sl 3 (.int .i64),false,false⟩]⟩
def zZ:a8:=⟨GT,(some λX=>f9.P X.1 X.2.1),λX=>((),((f9.g X.1 X.2.1),()))⟩
def GU:Gm:=bk
def f59GOk:au Try.prog GU:=au.nil
def f59lE:aa:=⟨[],[],[],[],[]⟩
def f59s0(a b:Int):St:=bH GT.ps (a,(b,()))
def f59s1(a:LI):St:=ah [(4,xo 1000256)] [] [(1000256,(⟨3,.int .i64,a,true,false⟩:ac))]
def f59l1:aa:=⟨[4],[],[],[],[(⟨false,4,0⟩,1000256)]⟩
def f59B:Nat->Option aa:=aA [(1000000,f59l1)]
abbrev f59j{J:Type}(N n:Nat)(V:St)(l:aa)(K:KT J):Option J:=ak GU bm f59B N (bf 99 (bu Try.f59) n) .n V (ax (some l) K)
def f59t0 N a b (K:KT J):f59j N 1 (f59s0 a b) f59lE K =
 f9.Z0 N a b (λc=>K .ret (f59s1 c)):=by kernel_rfl
def f59ok(h:f9.Spec):aG Try.prog 59 zZ :=
 bQ Try.func59 bv f59GOk (λN X K=>f59t0 N X.1 X.2.1 K) (by kernel_rfl) λX hb hp=>by obtain⟨a,b,_⟩:=X;obtain⟨N,h⟩:=h a b hp;exact⟨N,Eq.trans (by kernel_rfl) (h N (Nat.le_refl N))⟩
def e59ok:aG Try.prog 59 zZ:=f59ok f9.ok
def GV:bC:=⟨[⟨.pair (.int .i64) (.pair (.int .i64) (.sl 3 (.int .i64))),true,false⟩,⟨.sl 3 (.int .i64),false,false⟩],[⟨.sl 24 (.sl 3 (.int .i64)),false,false⟩,⟨.bool,false,false⟩]⟩
def z5:a8:=⟨GV,none,λX=>((),((aW.g X.1 X.2.1).1,((aW.g X.1 X.2.1).2,())))⟩
def GW:Gm:=aY (aY (aY bk 57 rA) 59 zZ) 60 mW
def f16GOk:au Try.prog GW:=(((au.nil).add zU (by kernel_rfl)).add e59ok (by kernel_rfl)).add rj (by kernel_rfl)
def f16lE:aa:=⟨[],[],[],[],[]⟩
def f16s0(a:MT)(b:LI):St:=bH GV.ps (a,(b,()))
def GX(a:LI)(b d:Int)(e:LI):St:=ah [(1,.c (.sn 3 tI a none)),(2,xb 2)] [(2,(26,[yi b,yi d,.sn 3 tI e none]))] []
def f16l1:aa:=⟨[1,2],[2],[],[],[]⟩
def GY(a:LM)(b:LI)(d:Bool)(e f:Int)(g:LI):St:=ah [(1,.c (.sn 3 tI b none)),(2,xb 2),(6,xo 1000384),(7,xB d)] [(2,(26,[yi e,yi f,.sn 3 tI g none]))] [(1000384,(⟨26,tM 3,a,true,false⟩:ac))]
def f16l2:aa:=⟨[1,2,6,7],[2],[],[],[(⟨false,6,0⟩,1000384)]⟩
def GZ(a:LM)(b:LI)(d e:Int)(f:LI):St:=ah [(1,.c (.sn 3 tI b none)),(2,xb 2),(6,xo 1000384)] [(2,(26,[yi d,yi e,.sn 3 tI f none]))] [(1000384,(⟨26,tM 3,a,true,false⟩:ac))]
def f16l3:aa:=⟨[1,2,6],[2],[],[],[(⟨false,6,0⟩,1000384)]⟩
def G0(a:LM)(b:LI)(d e f:Int)(g:LI):St:=ah [(1,.c (.sn 3 tI b none)),(2,xb 2),(6,xo 1000384),(8,xi d)] [(2,(26,[yi e,yi f,.sn 3 tI g none]))] [(1000384,(⟨26,tM 3,a,true,false⟩:ac))]
def f16l4:aa:=⟨[1,2,6,8],[2],[],[],[(⟨false,6,0⟩,1000384)]⟩
def G1(a:LM)(b:LI)(d e f:Int)(g:LI):St:=ah [(1,.c (.sn 3 tI b none)),(2,xb 2),(6,xo 1000384),(8,xi d),(9,.c (.nil))] [(2,(26,[yi e,yi f,.sn 3 tI g none]))] [(1000384,(⟨26,tM 3,a,true,false⟩:ac))]
def f16l5:aa:=⟨[1,2,6,8,9],[2],[],[],[(⟨false,6,0⟩,1000384)]⟩
def G3(a:LM)(b:LI)(d e f g:Int)(h:LI):St:=ah [(1,.c (.sn 3 tI b none)),(2,xb 2),(6,xo 1000384),(8,xi d),(9,.c (.nil)),(10,xi e)] [(2,(26,[yi f,yi g,.sn 3 tI h none]))] [(1000384,(⟨26,tM 3,a,true,false⟩:ac))]
def f16l6:aa:=⟨[1,2,6,8,9,10],[2],[],[],[(⟨false,6,0⟩,1000384)]⟩
def G4(a:LM)(b:LL)(d:LI)(e f g h:Int)(i:LI):St:=ah [(1,.c (.sn 3 tI d none)),(2,xb 2),(6,xo 1000384),(8,xi e),(9,xo 1000576),(10,xi f)] [(2,(26,[yi g,yi h,.sn 3 tI i none]))] [(1000384,(⟨26,tM 3,a,true,false⟩:ac)),(1000576,(⟨24,.sl 3 tI,b,true,false⟩:ac))]
def f16l7:aa:=⟨[1,2,6,8,9,10],[2],[⟨⟨false,9,0⟩,30000000,24,.sl 3 (.int .i64),true⟩],[],[(⟨false,6,0⟩,1000384),(⟨false,9,0⟩,1000576)]⟩
def rE(a:LM)(b:LL)(d:LI)(e f g:Int)(h:LI):St:=ah [(1,.c (.sn 3 tI d none)),(2,xb 2),(6,xo 1000384),(8,xi e),(9,xo 1000576)] [(2,(26,[yi f,yi g,.sn 3 tI h none]))] [(1000384,(⟨26,tM 3,a,true,false⟩:ac)),(1000576,(⟨24,.sl 3 tI,b,true,false⟩:ac))]
def z6:aa:=⟨[1,2,6,8,9],[2],[],[],[(⟨false,6,0⟩,1000384),(⟨false,9,0⟩,1000576)]⟩
def gL(a:LM)(b:LL)(d:Int)(e:LI)(f g h i:Int)(j:LI):St:=ah [(2,xb 2),(6,xo 1000384),(8,xi d),(9,xo 1000576),(40,.c (.sn 3 tI e none)),(41,xi f),(42,xi g)] [(2,(26,[yi h,yi i,.sn 3 tI j none]))] [(1000384,(⟨26,tM 3,a,true,false⟩:ac)),(1000576,(⟨24,.sl 3 tI,b,true,false⟩:ac))]
def lL:aa:=⟨[2,6,8,9,40,41,42],[2],[],[],[(⟨false,6,0⟩,1000384),(⟨false,9,0⟩,1000576)]⟩
def G5(a:LM)(b:LL)(d:Int)(e:LI)(f g:Int)(h:Bool)(i j:Int)(l:LI):St:=ah [(2,xb 2),(6,xo 1000384),(8,xi d),(9,xo 1000576),(40,.c (.sn 3 tI e none)),(41,xi f),(42,xi g),(43,xB h)] [(2,(26,[yi i,yi j,.sn 3 tI l none]))] [(1000384,(⟨26,tM 3,a,true,false⟩:ac)),(1000576,(⟨24,.sl 3 tI,b,true,false⟩:ac))]
def f16l10:aa:=⟨[2,6,8,9,40,41,42,43],[2],[],[],[(⟨false,6,0⟩,1000384),(⟨false,9,0⟩,1000576)]⟩
def G6(a:LM)(b:LL)(d e f:Int)(g:LI)(h i j l:Int)(m:LI):St:=ah [(2,xb 2),(6,xo 1000384),(8,xi d),(9,xo 1000576),(11,xi e),(12,xi f),(40,.c (.sn 3 tI g none)),(41,xi h),(42,xi i)] [(2,(26,[yi j,yi l,.sn 3 tI m none]))] [(1000384,(⟨26,tM 3,a,true,false⟩:ac)),(1000576,(⟨24,.sl 3 tI,b,true,false⟩:ac))]
def f16l11:aa:=⟨[2,6,8,9,11,12,40,41,42],[2],[],[],[(⟨false,6,0⟩,1000384),(⟨false,9,0⟩,1000576)]⟩
def G7(a:LM)(b:LL)(d e:Int)(f:LI)(g h i j:Int)(l:LI)(m o:Int)(p:LI):St:=ah [(2,xb 2),(6,xo 1000384),(8,xi d),(9,xo 1000576),(12,xi e),(13,xb 13),(40,.c (.sn 3 tI f none)),(41,xi g),(42,xi h)] [(2,(26,[yi i,yi j,.sn 3 tI l none])),(13,(26,[yi m,yi o,.sn 3 tI p (some 1000384)]))] [(1000384,(⟨26,tM 3,a,true,false⟩:ac)),(1000576,(⟨24,.sl 3 tI,b,true,false⟩:ac))]
def f16l12:aa:=⟨[2,6,8,9,12,13,40,41,42],[2,13],[],[],[(⟨false,6,0⟩,1000384),(⟨false,9,0⟩,1000576)]⟩
def ko(a:LM)(b:LL)(d e:Int)(f:LI)(g h i j l m:Int)(o:LI)(p q:Int)(r:LI):St:=ah [(2,xb 2),(6,xo 1000384),(8,xi d),(9,xo 1000576),(12,xi e),(13,xb 13),(40,.c (.sn 3 tI f none)),(41,xi g),(42,xi h),(52,xi i),(53,xi j)] [(2,(26,[yi l,yi m,.sn 3 tI o none])),(13,(26,[yi p,yi q,.sn 3 tI r (some 1000384)]))] [(1000384,(⟨26,tM 3,a,true,false⟩:ac)),(1000576,(⟨24,.sl 3 tI,b,true,false⟩:ac))]
def oO:aa:=⟨[2,6,8,9,12,13,40,41,42,52,53],[2,13],[],[],[(⟨false,6,0⟩,1000384),(⟨false,9,0⟩,1000576)]⟩
def G8(a:LM)(b:LL)(d e:Int)(f:LI)(g h i j:Int)(l:Bool)(m o:Int)(p:LI)(q r:Int)(s:LI):St:=ah [(2,xb 2),(6,xo 1000384),(8,xi d),(9,xo 1000576),(12,xi e),(13,xb 13),(40,.c (.sn 3 tI f none)),(41,xi g),(42,xi h),(52,xi i),(53,xi j),(54,xB l)] [(2,(26,[yi m,yi o,.sn 3 tI p none])),(13,(26,[yi q,yi r,.sn 3 tI s (some 1000384)]))] [(1000384,(⟨26,tM 3,a,true,false⟩:ac)),(1000576,(⟨24,.sl 3 tI,b,true,false⟩:ac))]
def f16l14:aa:=⟨[2,6,8,9,12,13,40,41,42,52,53,54],[2,13],[],[],[(⟨false,6,0⟩,1000384),(⟨false,9,0⟩,1000576)]⟩
def G9(a:LM)(b:LL)(d e f:Int)(g:LI)(h i j l m o:Int)(p:LI)(q r:Int)(s:LI):St:=ah [(2,xb 2),(6,xo 1000384),(8,xi d),(9,xo 1000576),(12,xi e),(13,xb 13),(14,xi f),(40,.c (.sn 3 tI g none)),(41,xi h),(42,xi i),(52,xi j),(53,xi l)] [(2,(26,[yi m,yi o,.sn 3 tI p none])),(13,(26,[yi q,yi r,.sn 3 tI s (some 1000384)]))] [(1000384,(⟨26,tM 3,a,true,false⟩:ac)),(1000576,(⟨24,.sl 3 tI,b,true,false⟩:ac))]
def f16l15:aa:=⟨[2,6,8,9,12,13,14,40,41,42,52,53],[2,13],[],[],[(⟨false,6,0⟩,1000384),(⟨false,9,0⟩,1000576)]⟩
def mZ(a:LM)(b:LL)(d e f g:Int)(h:LI)(i j l m o p:Int)(q:LI)(r s:Int)(t:LI):St:=ah [(2,xb 2),(6,xo 1000384),(8,xi d),(9,xo 1000576),(12,xi e),(13,xb 13),(14,xi f),(15,xi g),(40,.c (.sn 3 tI h none)),(41,xi i),(42,xi j),(52,xi l),(53,xi m)] [(2,(26,[yi o,yi p,.sn 3 tI q none])),(13,(26,[yi r,yi s,.sn 3 tI t (some 1000384)]))] [(1000384,(⟨26,tM 3,a,true,false⟩:ac)),(1000576,(⟨24,.sl 3 tI,b,true,false⟩:ac))]
def uO:aa:=⟨[2,6,8,9,12,13,14,15,40,41,42,52,53],[2,13],[],[],[(⟨false,6,0⟩,1000384),(⟨false,9,0⟩,1000576)]⟩
def uP(a:LM)(b:LL)(d e f g h:Int)(i:LI)(j l m o p q:Int)(r:LI)(s t:Int)(u:LI):St:=ah [(2,xb 2),(6,xo 1000384),(8,xi d),(9,xo 1000576),(12,xi e),(13,xb 13),(14,xi f),(15,xi g),(16,xi h),(40,.c (.sn 3 tI i none)),(41,xi j),(42,xi l),(52,xi m),(53,xi o)] [(2,(26,[yi p,yi q,.sn 3 tI r none])),(13,(26,[yi s,yi t,.sn 3 tI u (some 1000384)]))] [(1000384,(⟨26,tM 3,a,true,false⟩:ac)),(1000576,(⟨24,.sl 3 tI,b,true,false⟩:ac))]
def Ha:aa:=⟨[2,6,8,9,12,13,14,15,16,40,41,42,52,53],[2,13],[],[],[(⟨false,6,0⟩,1000384),(⟨false,9,0⟩,1000576)]⟩
def oQ(a:LL):St:=ah [(9,xo 1000576)] [] [(1000576,(⟨24,.sl 3 tI,a,true,false⟩:ac))]
def z8:aa:=⟨[9],[],[],[],[(⟨false,9,0⟩,1000576)]⟩
def Aa(a:LL)(b:Bool):St:=ah [(4,xo 1000256),(5,xB b)] [] [(1000256,(⟨24,.sl 3 tI,a,true,false⟩:ac))]
def f16l19:aa:=⟨[4,5],[],[⟨⟨false,4,0⟩,30000000,24,.sl 3 (.int .i64),true⟩],[],[(⟨false,4,0⟩,1000256)]⟩
def f16B:Nat->Option aa:=aA [(0,z6),(6,uO),(5,oO),(4,lL),(3,lL),(2,z8),(1000000,f16l19)]
abbrev dD{J:Type}(N n:Nat)(V:St)(l:aa)(K:KT J):Option J:=ak GW bm f16B N (bf 99 (bu Try.f16) n) .n V (ax (some l) K)
def f16t1 N b a (K:KT J):dD N 2 (f16s0 b a) f16l1 K =
 aW.Z1 N b a (λa c d e=>K .nrm (GX a c d e)):=by kernel_rfl
def f16t3 N a b c d (K:KT J):dD N 5 (GX a b c d) f16l2 K =
 aW.Z3 N a b c d (λe a f b c d=>K .nrm (GY e a f b c d)):=by kernel_rfl
def f16t5 N a b f c d e (K:KT J):dD N 11 (GY a b f c d e) f16l3 K =
 aW.Z5 N a b f c d e (λa b c d e=>K .nrm (GZ a b c d e)) (λg h=>K .ret (Aa g h)):=by kernel_rfl
def f16t7 N a b c d e (K:KT J):dD N 23 (GZ a b c d e) f16l4 K =
 aW.Z7 N a b c d e (λa b f c d e=>K .nrm (G0 a b f c d e)):=by kernel_rfl
def f16t9 N a b c d e f (K:KT J):dD N 47 (G0 a b c d e f) f16l5 K =
 aW.Z9 N a b c d e f (λa b c d e f=>K .nrm (G1 a b c d e f)):=by kernel_rfl
def f16t12 N a b c d e f (K:KT J):dD N 159 (G1 a b c d e f) f16l6 K =
 aW.Z12 N a b c d e f (λa b c g d e f=>K .nrm (G3 a b c g d e f)):=by kernel_rfl
def f16t15 N a b c d h e f g (K:KT J):dD N 607 (G4 a b c d h e f g) f16l7 K =
 aW.Z15 N a b c d h e f g (λa b c d h e f g=>K .nrm (G4 a b c d h e f g)) (λa b c d e f g=>K (.exit 0) (rE a b c d e f g)):=by kernel_rfl
def f16t14L N (K:KT J):=nU K (aW.Z14L N (λa b c d e f g=>K (.exit 0) (rE a b c d e f g))) (λa b c d h e f g k=>aW.Z15 N a b c d h e f g k (λa b c d e f g=>K (.exit 0) (rE a b c d e f g))) (λF a b c d h e f g=>f16t15 N a b c d h e f g _) (by kernel_rfl)
def f16t14 N a b c d e f g (K:KT J):=vL (G3 a b c d e f g) (f16t14L N (jK z6 K) N a ([]:List (LI)) b c d e f g) (by kernel_rfl)
def f16t13 N a b c g d e f (K:KT J):=vB 0 z6 K (aW.Z13 N a b c g d e f (λa h b c d e f=>K .nrm (rE a h b c d e f))) (f16t14 N a b c g d e f _) (by kernel_rfl)
def f16t11 N a b c d e f (K:KT J):=vQ (λk=>aW.Z12 N a b c d e f k) (f16t12 N a b c d e f _) (gV λa b c g d e f=>f16t13 N a b c g d e f K)
def f16t18 N a b g c d e f (K:KT J):dD N 319 (rE a b g c d e f) lL K =
 aW.Z18 N a b g c d e f (λa b c h i j d e f=>K .nrm (gL a b c h i j d e f)):=by kernel_rfl
def f16t22 N a b c d e f g h i (K:KT J):dD N 2239 (gL a b c d e f g h i) f16l10 K =
 aW.Z22 N a b c d e f g h i (λa b c d e f j g h i=>K .nrm (G5 a b c d e f j g h i)):=by kernel_rfl
def f16t24 N b a c d e f j g h i (K:KT J):dD N 5311 (G5 b a c d e f j g h i) lL K =
 aW.Z24 N b a c d e f j g h i (λb a c d e f g h i=>K .nrm (gL b a c d e f g h i)) (λa=>K (.exit 2) (oQ a)):=by kernel_rfl
def f16t28 N a b c d e f g h i (K:KT J):dD N 36031 (gL a b c d e f g h i) f16l11 K =
 aW.Z28 N a b c d e f g h i (λa b c j l d e f g h i=>K .nrm (G6 a b c j l d e f g h i)):=by kernel_rfl
def f16t30 N a b c l d e f g h i j (K:KT J):dD N 85183 (G6 a b c l d e f g h i j) f16l12 K =
 aW.Z30 N a b c l d e f g h i j (λa b c d e f g h i j m o p=>K .nrm (G7 a b c d e f g h i j m o p)):=by kernel_rfl
def f16t32 N a b c d e f g h i j l m o (K:KT J):dD N 183487 (G7 a b c d e f g h i j l m o) oO K =
 aW.Z32 N a b c d e f g h i j l m o (λa b c d e f g p q h i j l m o=>K .nrm (ko a b c d e f g p q h i j l m o)):=by kernel_rfl
def f16t36 N a b c d e f g h i j l m o p q (K:KT J):dD N 1166527 (ko a b c d e f g h i j l m o p q) f16l14 K =
 aW.Z36 N a b c d e f g h i j l m o p q (λa b c d e f g h i r j l m o p q=>K .nrm (G8 a b c d e f g h i r j l m o p q)):=by kernel_rfl
def f16t38 N a b c j d e f l m r g h i o p q (K:KT J):dD N 2739391 (G8 a b c j d e f l m r g h i o p q) oO K =
 aW.Z38 N a b c j d e f l m r g h i o p q (λa b c j d e f l m g h i o p q=>K .nrm (ko a b c j d e f l m g h i o p q)) (λa b c d e f g h i=>K (.exit 4) (gL a b c d e f g h i)):=by kernel_rfl
def f16t42 N a b c d e f g h i j l m o p q (K:KT J):dD N 18468031 (ko a b c d e f g h i j l m o p q) f16l15 K =
 aW.Z42 N a b c d e f g h i j l m o p q (λa b c d r e f g h i j l m o p q=>K .nrm (G9 a b c d r e f g h i j l m o p q)):=by kernel_rfl
def f16t44 N a b c d e f g h i j l m o p q r (K:KT J):dD N 43633855 (G9 a b c d e f g h i j l m o p q r) uO K =
 aW.Z44 N a b c d e f g h i j l m o p q r (λa b c d e s f g h i j l m o p q r=>K .nrm (mZ a b c d e s f g h i j l m o p q r)):=by kernel_rfl
def f16t47 N a b c d e f g h i j l m o p q r s (K:KT J):dD N 161074367 (mZ a b c d e f g h i j l m o p q r s) Ha K =
 aW.Z47 N a b c d e f g h i j l m o p q r s (λa b c d e f t g h i j l m o p q r s=>K .nrm (uP a b c d e f t g h i j l m o p q r s)):=by kernel_rfl
def f16t50 N a b c d e f t g h i j l m o p q r s (K:KT J):dD N 630836415 (uP a b c d e f t g h i j l m o p q r s) Ha K =
 aW.Z50 N a b c d e f t g h i j l m o p q r s (λa b c d e f t g h i j l m o p q r s=>K .nrm (uP a b c d e f t g h i j l m o p q r s)) (λa b c d e f g h i j l m o p q r s=>K (.exit 6) (mZ a b c d e f g h i j l m o p q r s)):=by kernel_rfl
def f16t49L N (K:KT J):=B1 K (aW.Z49L N (λa b c d e f g h i j l m o p q r s=>K (.exit 6) (mZ a b c d e f g h i j l m o p q r s))) (λa b c d e f t g h i j l m o p q r s k=>aW.Z50 N a b c d e f t g h i j l m o p q r s k (λa b c d e f g h i j l m o p q r s=>K (.exit 6) (mZ a b c d e f g h i j l m o p q r s))) (λF a b c d e f t g h i j l m o p q r s=>f16t50 N a b c d e f t g h i j l m o p q r s _) (by kernel_rfl)
def f16t49 N a b c d e f g h i j l m o p q r s t (K:KT J):=vL (uP a b c d e f g h i j l m o p q r s t) (f16t49L N (jK uO K) N a b c d e f g h i j l m o p q r s t) (by kernel_rfl)
def f16t48 N a b c d e f t g h i j l m o p q r s (K:KT J):=vB 6 uO K (aW.Z48 N a b c d e f t g h i j l m o p q r s (λa b c d e f g h i j l m o p q r s=>K .nrm (mZ a b c d e f g h i j l m o p q r s))) (f16t49 N a b c d e f t g h i j l m o p q r s _) (by kernel_rfl)
def f16t46 N a b c d e f g h i j l m o p q r s (K:KT J):=vQ (λk=>aW.Z47 N a b c d e f g h i j l m o p q r s k) (f16t47 N a b c d e f g h i j l m o p q r s _) (JI λa b c d e f t g h i j l m o p q r s=>f16t48 N a b c d e f t g h i j l m o p q r s K)
def f16t51 N a b c d r s e f g h i j l m o p q (K:KT J):dD N 127519935 (mZ a b c d r s e f g h i j l m o p q) oO K =
 aW.Z51 N a b c d r s e f g h i j l m o p q (λa b c d e f g h i j l m o p q=>K .nrm (ko a b c d e f g h i j l m o p q)):=by kernel_rfl
def f16t45 N a b c d e f g h i j l m o p q r s (K:KT J):=vQ (λk=>aW.Z46 N a b c d e f g h i j l m o p q r s k) (f16t46 N a b c d e f g h i j l m o p q r s _) (xt λa b c d e f g h i j l m o p q r s=>f16t51 N a b c d e f g h i j l m o p q r s K)
def f16t43 N a b c d e f g h i j l m o p q r (K:KT J):=vQ (λk=>aW.Z44 N a b c d e f g h i j l m o p q r k) (f16t44 N a b c d e f g h i j l m o p q r _) (xt λa b c d e s f g h i j l m o p q r=>f16t45 N a b c d e s f g h i j l m o p q r K)
def f16t41 N a b c d e f g h i j l m o p q (K:KT J):=vQ (λk=>aW.Z42 N a b c d e f g h i j l m o p q k) (f16t42 N a b c d e f g h i j l m o p q _) (nS λa b c d r e f g h i j l m o p q=>f16t43 N a b c d r e f g h i j l m o p q K)
def f16t40 N a b c d e f g h i j l m o p q (K:KT J):=vB 5 oO K (aW.Z40 N a b c d e f g h i j l m o p q (λa b c d e f g h i j l m o p q=>K .nrm (ko a b c d e f g h i j l m o p q))) (f16t41 N a b c d e f g h i j l m o p q _) (by kernel_rfl)
def f16t52 N a b c d e f g h i j l m o p q (K:KT J):dD N 7982271 (ko a b c d e f g h i j l m o p q) oO K =
 aW.Z52 N a b c d e f g h i j l m o p q (λa b c d e f g h i j l m o p q=>K .nrm (ko a b c d e f g h i j l m o p q)):=by kernel_rfl
def f16t39 N a b c d e f g h i j l m o p q (K:KT J):=vQ (λk=>aW.Z40 N a b c d e f g h i j l m o p q k) (f16t40 N a b c d e f g h i j l m o p q _) (qb λa b c d e f g h i j l m o p q=>f16t52 N a b c d e f g h i j l m o p q K)
def f16t37 N a b c j d e f l m r g h i o p q (K:KT J):=vQ (λk=>aW.Z38 N a b c j d e f l m r g h i o p q k (λa b c d e f g h i=>K (.exit 4) (gL a b c d e f g h i))) (f16t38 N a b c j d e f l m r g h i o p q _) (qb λa b c j d e f l m g h i o p q=>f16t39 N a b c j d e f l m g h i o p q K)
def f16t35 N a b c d e f g h i j l m o p q (K:KT J):=vQ (λk=>aW.Z36 N a b c d e f g h i j l m o p q k) (f16t36 N a b c d e f g h i j l m o p q _) (nS λa b c d e f g h i r j l m o p q=>f16t37 N a b c d e f g h i r j l m o p q K)
def f16t34L N (K:KT J):=BY K (aW.Z34L N (λa b c d e f g h i=>K (.exit 4) (gL a b c d e f g h i))) (λa b c j d e f l m g h i o p q k=>aW.Z35 N a b c j d e f l m g h i o p q k (λa b c d e f g h i=>K (.exit 4) (gL a b c d e f g h i))) (λF a b c j d e f l m g h i o p q=>f16t35 N a b c j d e f l m g h i o p q _) (by kernel_rfl)
def f16t34 N a b c d e f g h i j l m o p q (K:KT J):=vL (ko a b c d e f g h i j l m o p q) (f16t34L N (jK lL K) N a b c d e f g h i j l m o p q) (by kernel_rfl)
def f16t33 N a b c j d e f l m g h i o p q (K:KT J):=vB 4 lL K (aW.Z33 N a b c j d e f l m g h i o p q (λa b c d e f g h i=>K .nrm (gL a b c d e f g h i))) (f16t34 N a b c j d e f l m g h i o p q _) (by kernel_rfl)
def f16t31 N a b c d e f g h i j l m o (K:KT J):=vQ (λk=>aW.Z32 N a b c d e f g h i j l m o k) (f16t32 N a b c d e f g h i j l m o _) (qb λa b c d e f g p q h i j l m o=>f16t33 N a b c d e f g p q h i j l m o K)
def f16t29 N a b c l d e f g h i j (K:KT J):=vQ (λk=>aW.Z30 N a b c l d e f g h i j k) (f16t30 N a b c l d e f g h i j _) (iG λa b c d e f g h i j m o p=>f16t31 N a b c d e f g h i j m o p K)
def f16t27 N a b c d e f g h i (K:KT J):=vQ (λk=>aW.Z28 N a b c d e f g h i k) (f16t28 N a b c d e f g h i _) (fT λa b c j l d e f g h i=>f16t29 N a b c j l d e f g h i K)
def f16t26 N a b c d e f g h i (K:KT J):=vB 3 lL K (aW.Z26 N a b c d e f g h i (λa b c d e f g h i=>K .nrm (gL a b c d e f g h i))) (f16t27 N a b c d e f g h i _) (by kernel_rfl)
def f16t53 N a b c d e f g h i (K:KT J):dD N 15551 (gL a b c d e f g h i) lL K =
 aW.Z53 N a b c d e f g h i (λa b c d e f g h i=>K .nrm (gL a b c d e f g h i)):=by kernel_rfl
def f16t25 N a b c d e f g h i (K:KT J):=vQ (λk=>aW.Z26 N a b c d e f g h i k) (f16t26 N a b c d e f g h i _) (dM λa b c d e f g h i=>f16t53 N a b c d e f g h i K)
def f16t23 N b a c d e f j g h i (K:KT J):=vQ (λk=>aW.Z24 N b a c d e f j g h i k (λa=>K (.exit 2) (oQ a))) (f16t24 N b a c d e f j g h i _) (dM λb a c d e f g h i=>f16t25 N b a c d e f g h i K)
def f16t21 N a b c d e f g h i (K:KT J):=vQ (λk=>aW.Z22 N a b c d e f g h i k) (f16t22 N a b c d e f g h i _) (dN λa b c d e f j g h i=>f16t23 N a b c d e f j g h i K)
def f16t20L N (K:KT J):=qe K (aW.Z20L N (λa=>K (.exit 2) (oQ a))) (λb a c d e f g h i k=>aW.Z21 N b a c d e f g h i k (λa=>K (.exit 2) (oQ a))) (λF b a c d e f g h i=>f16t21 N b a c d e f g h i _) (by kernel_rfl)
def f16t20 N a b c d e f g h i (K:KT J):=vL (gL a b c d e f g h i) (f16t20L N (jK z8 K) N a b c d e f g h i) (by kernel_rfl)
def f16t19 N b a c d e f g h i (K:KT J):=vB 2 z8 K (aW.Z19 N b a c d e f g h i (λa=>K .nrm (oQ a))) (f16t20 N b a c d e f g h i _) (by kernel_rfl)
def f16t17 N a b g c d e f (K:KT J):=vQ (λk=>aW.Z18 N a b g c d e f k) (f16t18 N a b g c d e f _) (dM λa b c h i j d e f=>f16t19 N a b c h i j d e f K)
def f16t54 N a (K:KT J):dD N 255 (oQ a) f16lE K =
 aW.Z54 N a (λb c=>K .ret (Aa b c)):=by kernel_rfl
def f16t16 N b a c d e f g (K:KT J):=vQ (λk=>aW.Z17 N b a c d e f g k) (f16t17 N b a c d e f g _) (funext λa=>f16t54 N a K)
def f16t10 N a b c d e f (K:KT J):=vQ (λk=>aW.Z11 N a b c d e f k) (f16t11 N a b c d e f _) (gV λa g b c d e f=>f16t16 N a g b c d e f K)
def f16t8 N a b c d e f (K:KT J):=vQ (λk=>aW.Z9 N a b c d e f k) (f16t9 N a b c d e f _) (da λa b c d e f=>f16t10 N a b c d e f K)
def f16t6 N a b c d e (K:KT J):=vQ (λk=>aW.Z7 N a b c d e k) (f16t7 N a b c d e _) (da λa b f c d e=>f16t8 N a b f c d e K)
def f16t4 N a b f c d e (K:KT J):=vQ (λk=>aW.Z5 N a b f c d e k (λg h=>K .ret (Aa g h))) (f16t5 N a b f c d e _) (cN λa b c d e=>f16t6 N a b c d e K)
def f16t2 N a b c d (K:KT J):=vQ (λk=>aW.Z3 N a b c d k) (f16t3 N a b c d _) (da λe a f b c d=>f16t4 N e a f b c d K)
def f16t0 N b a (K:KT J):=vQ (λk=>aW.Z1 N b a k) (f16t1 N b a _) (d9 λa c d e=>f16t2 N a c d e K)
def f16ok(h:aW.Spec):aG Try.prog 16 z5 :=
 bQ Try.func16 bv f16GOk (λN X K=>f16t0 N X.1 X.2.1 K) (by kernel_rfl) λX hb hp=>by obtain⟨a,b,_⟩:=X;obtain⟨N,h⟩:=h a b hb.1 hb.2.1;exact⟨N,Eq.trans (by kernel_rfl) (h N (Nat.le_refl N))⟩
def e16ok:aG Try.prog 16 z5:=f16ok aW.ok
def Hb:bC:=⟨[⟨.pair (.int .i64) (.pair (.int .i64) (.sl 3 (.int .i64))),true,false⟩,⟨.sl 3 (.int .i64),false,false⟩],[⟨.pair (.int .i64) (.pair (.int .i64) (.sl 3 (.int .i64))),true,false⟩,⟨.bool,false,false⟩]⟩
def Ab:a8:=⟨Hb,none,λX=>((),((cJ.g X.1 X.2.1).1,((cJ.g X.1 X.2.1).2,())))⟩
def Hc:Gm:=aY (aY (aY bk 40 uL) 61 ru) 62 rz
def f17GOk:au Try.prog Hc:=(((au.nil).add GA (by kernel_rfl)).add zL (by kernel_rfl)).add zM (by kernel_rfl)
def f17lE:aa:=⟨[],[],[],[],[]⟩
def f17s0(a:MT)(b:LI):St:=bH Hb.ps (a,(b,()))
def uQ(a:LI)(b d:Int)(e:LI)(f g:Int):St:=ah [(1,.c (.sn 3 tI a none)),(2,xb 2),(4,xb 4)] [(2,(26,[yi b,yi d,.sn 3 tI e none])),(4,(26,[yi f,yi g,.nil]))] []
def He:aa:=⟨[1,2,4],[2,4],[],[],[]⟩
def uR(a b:LI)(d e f g:Int):St:=ah [(1,.c (.sn 3 tI b none)),(4,xb 4),(6,xb 6)] [(4,(26,[yi d,yi e,.nil])),(6,(26,[yi f,yi g,.own 20000386]))] [(20000386,(⟨3,.int .i64,a,true,false⟩:ac))]
def Hf:aa:=⟨[1,4,6],[4,6],[],[],[(⟨true,6,2⟩,20000386)]⟩
def uS(a b:LI)(d e f g h i:Int):St:=ah [(4,xb 4),(6,xb 6),(27,.c (.sn 3 tI b none)),(28,xi d),(29,xi e)] [(4,(26,[yi f,yi g,.nil])),(6,(26,[yi h,yi i,.own 20000386]))] [(20000386,(⟨3,.int .i64,a,true,false⟩:ac))]
def Hg:aa:=⟨[4,6,27,28,29],[4,6],[],[],[(⟨true,6,2⟩,20000386)]⟩
def rF(a:LI)(b c d e:Int):St:=ah [(4,xb 4),(6,xb 6)] [(4,(26,[yi b,yi c,.nil])),(6,(26,[yi d,yi e,.own 20000386]))] [(20000386,(⟨3,.int .i64,a,true,false⟩:ac))]
def Ac:aa:=⟨[4,6],[4,6],[],[],[(⟨true,6,2⟩,20000386)]⟩
def lM(a:LI)(b:Bool)(c d:Int):St:=ah [(4,xb 4),(5,xB b)] [(4,(26,[yi c,yi d,.own 20000258]))] [(20000258,(⟨3,.int .i64,a,true,false⟩:ac))]
def f17l5:aa:=⟨[4,5],[4],[⟨⟨true,4,2⟩,30000000,3,.int .i64,true⟩],[],[(⟨true,4,2⟩,20000258)]⟩
def f17B:Nat->Option aa:=aA [(0,Ac),(1000000,f17l5)]
abbrev m7{J:Type}(N n:Nat)(V:St)(l:aa)(K:KT J):Option J:=ak Hc bm f17B N (bf 99 (bu Try.f17) n) .n V (ax (some l) K)
def f17t1 N b a (K:KT J):m7 N 2 (f17s0 b a) He K =
 cJ.Z1 N b a (λa c d e f g=>K .nrm (uQ a c d e f g)):=by kernel_rfl
def f17t3 N c d e f a b (K:KT J):m7 N 5 (uQ c d e f a b) He K =
 cJ.Z3 N c d e f a b (λc d e f a b=>K .nrm (uQ c d e f a b)) (λg h a b=>K .ret (lM g h a b)):=by kernel_rfl
def f17t5 N a d e f b c (K:KT J):m7 N 11 (uQ a d e f b c) Hf K =
 cJ.Z5 N a d e f b c (λg a b c h i=>K .nrm (uR g a b c h i)):=by kernel_rfl
def f17t7 N a b c d e f (K:KT J):m7 N 23 (uR a b c d e f) Hf K =
 cJ.Z7 N a b c d e f (λa b c d e f=>K .nrm (uR a b c d e f)):=by kernel_rfl
def f17t10 N a f b c d e (K:KT J):m7 N 79 (uR a f b c d e) Hg K =
 cJ.Z10 N a f b c d e (λa g h i b c d e=>K .nrm (uS a g h i b c d e)):=by kernel_rfl
def f17t13 N c f g h a b d e (K:KT J):m7 N 303 (uS c f g h a b d e) Hg K =
 cJ.Z13 N c f g h a b d e (λc f g h a b d e=>K .nrm (uS c f g h a b d e)) (λc a b d e=>K (.exit 0) (rF c a b d e)) (λi j a b=>K .ret (lM i j a b)):=by kernel_rfl
def f17t12L N (K:KT J):=nU K (cJ.Z12L N (λc a b d e=>K (.exit 0) (rF c a b d e)) (λf g a b=>K .ret (lM f g a b))) (λc h i j a b d e k=>cJ.Z13 N c h i j a b d e k (λc a b d e=>K (.exit 0) (rF c a b d e)) (λf g a b=>K .ret (lM f g a b))) (λF c h i j a b d e=>f17t13 N c h i j a b d e _) (by kernel_rfl)
def f17t12 N a b c d e f g h (K:KT J):=vL (uS a b c d e f g h) (f17t12L N (jK Ac K) N a b c d e f g h) (by kernel_rfl)
def f17t11 N c f g h a b d e (K:KT J):=vB 0 Ac K (cJ.Z11 N c f g h a b d e (λc a b d e=>K .nrm (rF c a b d e)) (λi j a b=>K .ret (lM i j a b))) (f17t12 N c f g h a b d e _) (by kernel_rfl)
def f17t9 N a f b c d e (K:KT J):=vQ (λk=>cJ.Z10 N a f b c d e k) (f17t10 N a f b c d e _) (ed λa g h i b c d e=>f17t11 N a g h i b c d e K)
def f17t14 N c a b d e (K:KT J):m7 N 63 (rF c a b d e) f17lE K =
 cJ.Z14 N c a b d e (λf g a b=>K .ret (lM f g a b)):=by kernel_rfl
def f17t8 N c f a b d e (K:KT J):=vQ (λk=>cJ.Z9 N c f a b d e k (λg h a b=>K .ret (lM g h a b))) (f17t9 N c f a b d e _) (cN λc a b d e=>f17t14 N c a b d e K)
def f17t6 N a b c d e f (K:KT J):=vQ (λk=>cJ.Z7 N a b c d e f k) (f17t7 N a b c d e f _) (da λa b c d e f=>f17t8 N a b c d e f K)
def f17t4 N a d e f b c (K:KT J):=vQ (λk=>cJ.Z5 N a d e f b c k) (f17t5 N a d e f b c _) (da λg a b c h i=>f17t6 N g a b c h i K)
def f17t2 N c d e f a b (K:KT J):=vQ (λk=>cJ.Z3 N c d e f a b k (λg h a b=>K .ret (lM g h a b))) (f17t3 N c d e f a b _) (da λc d e f a b=>f17t4 N c d e f a b K)
def f17t0 N b a (K:KT J):=vQ (λk=>cJ.Z1 N b a k) (f17t1 N b a _) (da λa c d e f g=>f17t2 N a c d e f g K)
def f17ok(h:cJ.Spec):aG Try.prog 17 Ab :=
 bQ Try.func17 bv f17GOk (λN X K=>f17t0 N X.1 X.2.1 K) (by kernel_rfl) λX hb hp=>by obtain⟨a,b,_⟩:=X;obtain⟨N,h⟩:=h a b hb.1 hb.2.1;exact⟨N,Eq.trans (by kernel_rfl) (h N (Nat.le_refl N))⟩
def e17ok:aG Try.prog 17 Ab:=f17ok cJ.ok
def Hh:bC:=⟨[⟨.pair (.int .i64) (.pair (.int .i64) (.sl 3 (.int .i64))),true,false⟩],[⟨.sl 3 (.int .i64),false,false⟩]⟩
def Ad:a8:=⟨Hh,none,λX=>((),((jL.g X.1),()))⟩
def Hi:Gm:=aY (aY bk 63 uA) 64 uC
def f18GOk:au Try.prog Hi:=((au.nil).add FV (by kernel_rfl)).add Gf (by kernel_rfl)
def f18lE:aa:=⟨[],[],[],[],[]⟩
def f18s0(a:MT):St:=bH Hh.ps (a,())
def f18s1(a:LI):St:=ah [(2,xo 1000128)] [] [(1000128,(⟨3,.int .i64,a,true,false⟩:ac))]
def f18l1:aa:=⟨[2],[],[⟨⟨false,2,0⟩,30000000,3,.int .i64,true⟩],[],[(⟨false,2,0⟩,1000128)]⟩
def f18B:Nat->Option aa:=aA [(1000000,f18l1)]
abbrev f18j{J:Type}(N n:Nat)(V:St)(l:aa)(K:KT J):Option J:=ak Hi bm f18B N (bf 99 (bu Try.f18) n) .n V (ax (some l) K)
def f18t0 N a (K:KT J):f18j N 1 (f18s0 a) f18lE K =
 jL.Z0 N a (λb=>K .ret (f18s1 b)):=by kernel_rfl
def f18ok(h:jL.Spec):aG Try.prog 18 Ad :=
 bQ Try.func18 bv f18GOk (λN X K=>f18t0 N X.1 K) (by kernel_rfl) λX hb hp=>by obtain⟨a,_⟩:=X;obtain⟨N,h⟩:=h a hb.1;exact⟨N,Eq.trans (by kernel_rfl) (h N (Nat.le_refl N))⟩
def e18ok:aG Try.prog 18 Ad:=f18ok jL.ok
def Hj:bC:=⟨[⟨.sl 24 (.sl 3 (.int .i64)),false,false⟩,⟨.int .i64,false,false⟩],[⟨.bool,false,false⟩]⟩
def Ae:a8:=⟨Hj,none,λX=>((),((dz.g X.1 X.2.1),()))⟩
def Hl:Gm:=bk
def f19GOk:au Try.prog Hl:=au.nil
def f19lE:aa:=⟨[],[],[],[],[]⟩
def f19s0(a:LL)(b:Int):St:=bH Hj.ps (a,(b,()))
def uT(a:LL)(b:Int):St:=ah [(0,.c (.sn 24 (.sl 3 tI) a none)),(1,xi b)] [] []
def Hm:aa:=⟨[0,1],[],[],[],[]⟩
def uU(a:LL)(b d:Int):St:=ah [(0,.c (.sn 24 (.sl 3 tI) a none)),(1,xi b),(5,xi d)] [] []
def Hn:aa:=⟨[0,1,5],[],[],[],[]⟩
def rG :St:=ah [] [] []
def Af:aa:=⟨[],[],[],[],[]⟩
def lN(a:Bool):St:=ah [(4,xB a)] [] []
def f19l4:aa:=⟨[4],[],[],[],[]⟩
def f19B:Nat->Option aa:=aA [(0,Af),(1000000,f19l4)]
abbrev rH{J:Type}(N n:Nat)(V:St)(l:aa)(K:KT J):Option J:=ak Hl bm f19B N (bf 99 (bu Try.f19) n) .n V (ax (some l) K)
def f19t1 N a b (K:KT J):rH N 2 (f19s0 a b) Hm K =
 dz.Z1 N a b (λa b=>K .nrm (uT a b)):=by kernel_rfl
def f19t3 N a b (K:KT J):rH N 5 (uT a b) Hm K =
 dz.Z3 N a b (λa b=>K .nrm (uT a b)) (λc=>K .ret (lN c)):=by kernel_rfl
def f19t6 N a b (K:KT J):rH N 19 (uT a b) Hn K =
 dz.Z6 N a b (λa b c=>K .nrm (uU a b c)):=by kernel_rfl
def f19t9 N a b c (K:KT J):rH N 75 (uU a b c) Hn K =
 dz.Z9 N a b c (λa b c=>K .nrm (uU a b c)) (K (.exit 0) rG) (λd=>K .ret (lN d)):=by kernel_rfl
def f19t8L N (K:KT J):=mA K (dz.Z8L N (K (.exit 0) rG) (λa=>K .ret (lN a))) (λb c d k=>dz.Z9 N b c d k (K (.exit 0) rG) (λa=>K .ret (lN a))) (λF b c d=>f19t9 N b c d _) (by kernel_rfl)
def f19t8 N a b c (K:KT J):=vL (uU a b c) (f19t8L N (jK Af K) N a b c) (by kernel_rfl)
def f19t7 N a b c (K:KT J):=vB 0 Af K (dz.Z7 N a b c (K .nrm rG) (λd=>K .ret (lN d))) (f19t8 N a b c _) (by kernel_rfl)
def f19t5 N a b (K:KT J):=vQ (λk=>dz.Z6 N a b k) (f19t6 N a b _) (fG λa b c=>f19t7 N a b c K)
def f19t10 N  (K:KT J):rH N 15 rG f19lE K =
 dz.Z10 N (λa=>K .ret (lN a)):=by kernel_rfl
def f19t4 N a b (K:KT J):=vQ (λk=>dz.Z5 N a b k (λc=>K .ret (lN c))) (f19t5 N a b _) (f19t10 N K)
def f19t2 N a b (K:KT J):=vQ (λk=>dz.Z3 N a b k (λc=>K .ret (lN c))) (f19t3 N a b _) (gz λa b=>f19t4 N a b K)
def f19t0 N a b (K:KT J):=vQ (λk=>dz.Z1 N a b k) (f19t1 N a b _) (gz λa b=>f19t2 N a b K)
def f19ok(h:dz.Spec):aG Try.prog 19 Ae :=
 bQ Try.func19 bv f19GOk (λN X K=>f19t0 N X.1 X.2.1 K) (by kernel_rfl) λX hb hp=>by obtain⟨a,b,_⟩:=X;obtain⟨N,h⟩:=h a b hb.1;exact⟨N,Eq.trans (by kernel_rfl) (h N (Nat.le_refl N))⟩
def e19ok:aG Try.prog 19 Ae:=f19ok dz.ok
def Ag:bC:=⟨[⟨.sl 24 (.sl 3 (.int .i64)),false,false⟩],[⟨.int .i64,false,false⟩]⟩
def Ho(m:Nat):a8:=⟨Ag,(some (fH (λX=>bn.mu X.1) (λX=>bn.P X.1) m)),λX=>((),((bn.g X.1),()))⟩
def Ah:a8:=⟨Ag,(some λX=>bn.P X.1),λX=>((),((bn.g X.1),()))⟩
def Hp(m:Nat):Gm:=aY bk 20 (Ho m)
def f20GOk(m:Nat)(hself:aG Try.prog 20 (Ho m)):au Try.prog (Hp m):=(au.nil).add hself (by kernel_rfl)
def f20lE:aa:=⟨[],[],[],[],[]⟩
def f20s0(a:LL):St:=bH Ag.ps (a,())
def uV(a:LL):St:=ah [(0,.c (.sn 24 (.sl 3 tI) a none))] [] []
def Hq:aa:=⟨[0],[],[],[],[]⟩
def Hr(a:LL)(b:Int):St:=ah [(0,.c (.sn 24 (.sl 3 tI) a none)),(3,xi b)] [] []
def f20l2:aa:=⟨[0,3],[],[],[],[]⟩
def Hs(a:LL)(b d:Int):St:=ah [(0,.c (.sn 24 (.sl 3 tI) a none)),(3,xi b),(4,xi d)] [] []
def f20l3:aa:=⟨[0,3,4],[],[],[],[]⟩
def kp(a:LL)(b d e:Int):St:=ah [(0,.c (.sn 24 (.sl 3 tI) a none)),(3,xi b),(4,xi d),(5,xi e)] [] []
def oR:aa:=⟨[0,3,4,5],[],[],[],[]⟩
def m8(a b:LL)(d e f:Int):St:=ah [(0,.c (.sn 24 (.sl 3 tI) b none)),(3,xi d),(4,xi e),(5,xi f),(6,xo 1000384)] [] [(1000384,(⟨24,.sl 3 tI,a,true,false⟩:ac))]
def uW:aa:=⟨[0,3,4,5,6],[],[],[],[(⟨false,6,0⟩,1000384)]⟩
def uX(a b:LL)(d e f g:Int):St:=ah [(0,.c (.sn 24 (.sl 3 tI) b none)),(3,xi d),(4,xi e),(5,xi f),(6,xo 1000384),(7,xi g)] [] [(1000384,(⟨24,.sl 3 tI,a,true,false⟩:ac))]
def Ht:aa:=⟨[0,3,4,5,6,7],[],[],[],[(⟨false,6,0⟩,1000384)]⟩
def oS(a:Int):St:=ah [(3,xi a)] [] []
def Ai:aa:=⟨[3],[],[],[],[]⟩
def Aj(a:Int):St:=ah [(2,xi a)] [] []
def f20l8:aa:=⟨[2],[],[],[],[]⟩
def f20B:Nat->Option aa:=aA [(2,uW),(1,oR),(0,Ai),(1000000,f20l8)]
abbrev ir{J:Type}(N m n:Nat)(V:St)(l:aa)(K:KT J):Option J:=ak (Hp m) bm f20B N (bf 99 (bu Try.f20) n) .n V (ax (some l) K)
def f20t1 N m a (K:KT J):ir N m 2 (f20s0 a) Hq K =
 bn.Z1 N m a (λa=>K .nrm (uV a)):=by kernel_rfl
def f20t3 N m a (K:KT J):ir N m 5 (uV a) Hq K =
 bn.Z3 N m a (λa=>K .nrm (uV a)) (λb=>K .ret (Aj b)):=by kernel_rfl
def f20t5 N m a (K:KT J):ir N m 11 (uV a) f20l2 K =
 bn.Z5 N m a (λa b=>K .nrm (Hr a b)):=by kernel_rfl
def f20t7 N m a b (K:KT J):ir N m 23 (Hr a b) f20l3 K =
 bn.Z7 N m a b (λa b c=>K .nrm (Hs a b c)):=by kernel_rfl
def f20t10 N m a b c (K:KT J):ir N m 79 (Hs a b c) oR K =
 bn.Z10 N m a b c (λa b c d=>K .nrm (kp a b c d)):=by kernel_rfl
def f20t14 N m b a c d (K:KT J):ir N m 559 (kp b a c d) oR K =
 bn.Z14 N m b a c d (λb a c d=>K .nrm (kp b a c d)) (λa=>K (.exit 0) (oS a)):=by kernel_rfl
def f20t18 N m a b c d (K:KT J):ir N m 4399 (kp a b c d) uW K =
 bn.Z18 N m a b c d (λe a b c d=>K .nrm (m8 e a b c d)):=by kernel_rfl
def f20t21 N m a b c d e (K:KT J):ir N m 18735 (m8 a b c d e) Ht K =
 bn.Z21 N m a b c d e (λa b c d e f=>K .nrm (uX a b c d e f)):=by kernel_rfl
def f20t24 N m a b c d e f (K:KT J):ir N m 76079 (uX a b c d e f) Ht K =
 bn.Z24 N m a b c d e f (λa b c d e f=>K .nrm (uX a b c d e f)) (λa b c d e=>K (.exit 2) (m8 a b c d e)):=by kernel_rfl
def f20t23L N m (K:KT J):=qd K (bn.Z23L N m (λa b c d e=>K (.exit 2) (m8 a b c d e))) (λa b c d e f k=>bn.Z24 N m a b c d e f k (λa b c d e=>K (.exit 2) (m8 a b c d e))) (λF a b c d e f=>f20t24 N m a b c d e f _) (by kernel_rfl)
def f20t23 N m a b c d e f (K:KT J):=vL (uX a b c d e f) (f20t23L N m (jK uW K) N a b c d e f) (by kernel_rfl)
def f20t22 N m a b c d e f (K:KT J):=vB 2 uW K (bn.Z22 N m a b c d e f (λa b c d e=>K .nrm (m8 a b c d e))) (f20t23 N m a b c d e f _) (by kernel_rfl)
def f20t20 N m a b c d e (K:KT J):=vQ (λk=>bn.Z21 N m a b c d e k) (f20t21 N m a b c d e _) (da λa b c d e f=>f20t22 N m a b c d e f K)
def f20t25 N m e a b c d (K:KT J):ir N m 14639 (m8 e a b c d) oR K =
 bn.Z25 N m e a b c d (λa b c d=>K .nrm (kp a b c d)):=by kernel_rfl
def f20t19 N m a b c d e (K:KT J):=vQ (λk=>bn.Z20 N m a b c d e k) (f20t20 N m a b c d e _) (cN λa b c d e=>f20t25 N m a b c d e K)
def f20t17 N m a b c d (K:KT J):=vQ (λk=>bn.Z18 N m a b c d k) (f20t18 N m a b c d _) (cN λe a b c d=>f20t19 N m e a b c d K)
def f20t16 N m a b c d (K:KT J):=vB 1 oR K (bn.Z16 N m a b c d (λa b c d=>K .nrm (kp a b c d))) (f20t17 N m a b c d _) (by kernel_rfl)
def f20t26 N m a b c d (K:KT J):ir N m 1839 (kp a b c d) oR K =
 bn.Z26 N m a b c d (λa b c d=>K .nrm (kp a b c d)):=by kernel_rfl
def f20t15 N m a b c d (K:KT J):=vQ (λk=>bn.Z16 N m a b c d k) (f20t16 N m a b c d _) (d9 λa b c d=>f20t26 N m a b c d K)
def f20t13 N m b a c d (K:KT J):=vQ (λk=>bn.Z14 N m b a c d k (λa=>K (.exit 0) (oS a))) (f20t14 N m b a c d _) (d9 λb a c d=>f20t15 N m b a c d K)
def f20t12L N m (K:KT J):=s7 K (bn.Z12L N m (λa=>K (.exit 0) (oS a))) (λb a c d k=>bn.Z13 N m b a c d k (λa=>K (.exit 0) (oS a))) (λF b a c d=>f20t13 N m b a c d _) (by kernel_rfl)
def f20t12 N m a b c d (K:KT J):=vL (kp a b c d) (f20t12L N m (jK Ai K) N a b c d) (by kernel_rfl)
def f20t11 N m b a c d (K:KT J):=vB 0 Ai K (bn.Z11 N m b a c d (λa=>K .nrm (oS a))) (f20t12 N m b a c d _) (by kernel_rfl)
def f20t9 N m a b c (K:KT J):=vQ (λk=>bn.Z10 N m a b c k) (f20t10 N m a b c _) (d9 λa b c d=>f20t11 N m a b c d K)
def f20t27 N m a (K:KT J):ir N m 63 (oS a) f20lE K =
 bn.Z27 N m a (λb=>K .ret (Aj b)):=by kernel_rfl
def f20t8 N m b a c (K:KT J):=vQ (λk=>bn.Z9 N m b a c k) (f20t9 N m b a c _) (funext λa=>f20t27 N m a K)
def f20t6 N m a b (K:KT J):=vQ (λk=>bn.Z7 N m a b k) (f20t7 N m a b _) (fG λa b c=>f20t8 N m a b c K)
def f20t4 N m a (K:KT J):=vQ (λk=>bn.Z5 N m a k) (f20t5 N m a _) (gz λa b=>f20t6 N m a b K)
def f20t2 N m a (K:KT J):=vQ (λk=>bn.Z3 N m a k (λb=>K .ret (Aj b))) (f20t3 N m a _) (funext λa=>f20t4 N m a K)
def f20t0 N m a (K:KT J):=vQ (λk=>bn.Z1 N m a k) (f20t1 N m a _) (funext λa=>f20t2 N m a K)
def f20ok(h:bn.Spec):aG Try.prog 20 Ah :=
 aG.rec (μ:=λX=>bn.mu X.1) (λm hself=>bQ Try.func20 bv (f20GOk m hself) (λN X K=>f20t0 N m X.1 K) (by kernel_rfl) λX hb hp=>by obtain⟨a,_⟩:=X;obtain⟨N,h⟩:=h m a hb.1 hp;exact⟨N,Eq.trans (by kernel_rfl) (h N (Nat.le_refl N))⟩)
def e20ok:aG Try.prog 20 Ah:=f20ok bn.ok
def Hu:bC:=⟨[⟨.pair (.int .i64) (.pair (.int .i64) (.sl 3 (.int .i64))),true,false⟩,⟨.int .i64,false,false⟩],[⟨.int .i64,false,false⟩]⟩
def Ak:a8:=⟨Hu,(some λX=>dE.P X.1 X.2.1),λX=>((),((dE.g X.1 X.2.1),()))⟩
def Hv:Gm:=aY bk 60 mW
def f66GOk:au Try.prog Hv:=(au.nil).add rj (by kernel_rfl)
def f66lE:aa:=⟨[],[],[],[],[]⟩
def f66s0(a:MT)(b:Int):St:=bH Hu.ps (a,(b,()))
def Hw(a b c:Int)(d:LI):St:=ah [(1,xi a),(2,xb 2)] [(2,(26,[yi b,yi c,.sn 3 tI d none]))] []
def f66l1:aa:=⟨[1,2],[2],[],[],[]⟩
def Hx(a:Int)(b c:Bool)(d e:Int)(f:LI):St:=ah [(1,xi a),(2,xb 2),(5,xB b),(6,xB c)] [(2,(26,[yi d,yi e,.sn 3 tI f none]))] []
def f66l2:aa:=⟨[1,2,5,6],[2],[],[],[]⟩
def uY(a:Int)(b c:Bool)(d e f:Int)(g:LI):St:=ah [(1,xi a),(2,xb 2),(5,xB b),(6,xB c),(7,xi d)] [(2,(26,[yi e,yi f,.sn 3 tI g none]))] []
def Hy:aa:=⟨[1,2,5,6,7],[2],[],[],[]⟩
def rI(a b:Bool):St:=ah [(5,xB a),(6,xB b)] [] []
def Al:aa:=⟨[5,6],[],[],[],[]⟩
def f66s5(a:Int):St:=ah [(4,xi a)] [] []
def f66l5:aa:=⟨[4],[],[],[],[]⟩
def f66B:Nat->Option aa:=aA [(0,Al),(1000000,f66l5)]
abbrev rJ{J:Type}(N n:Nat)(V:St)(l:aa)(K:KT J):Option J:=ak Hv bm f66B N (bf 99 (bu Try.f66) n) .n V (ax (some l) K)
def f66t1 N b a (K:KT J):rJ N 2 (f66s0 b a) f66l1 K =
 dE.Z1 N b a (λa c d e=>K .nrm (Hw a c d e)):=by kernel_rfl
def f66t3 N a b c d (K:KT J):rJ N 5 (Hw a b c d) f66l2 K =
 dE.Z3 N a b c d (λa e f b c d=>K .nrm (Hx a e f b c d)):=by kernel_rfl
def f66t6 N a b c d e f (K:KT J):rJ N 19 (Hx a b c d e f) Hy K =
 dE.Z6 N a b c d e f (λa b c g d e f=>K .nrm (uY a b c g d e f)):=by kernel_rfl
def f66t9 N c a b d e f g (K:KT J):rJ N 75 (uY c a b d e f g) Hy K =
 dE.Z9 N c a b d e f g (λc a b d e f g=>K .nrm (uY c a b d e f g)) (λa b=>K (.exit 0) (rI a b)):=by kernel_rfl
def f66t8L N (K:KT J):=nT K (dE.Z8L N (λa b=>K (.exit 0) (rI a b))) (λc a b d e f g k=>dE.Z9 N c a b d e f g k (λa b=>K (.exit 0) (rI a b))) (λF c a b d e f g=>f66t9 N c a b d e f g _) (by kernel_rfl)
def f66t8 N a b c d e f g (K:KT J):=vL (uY a b c d e f g) (f66t8L N (jK Al K) N a b c d e f g) (by kernel_rfl)
def f66t7 N c a b d e f g (K:KT J):=vB 0 Al K (dE.Z7 N c a b d e f g (λa b=>K .nrm (rI a b))) (f66t8 N c a b d e f g _) (by kernel_rfl)
def f66t5 N a b c d e f (K:KT J):=vQ (λk=>dE.Z6 N a b c d e f k) (f66t6 N a b c d e f _) (gV λa b c g d e f=>f66t7 N a b c g d e f K)
def f66t10 N a b (K:KT J):rJ N 15 (rI a b) f66lE K =
 dE.Z10 N a b (λc=>K .ret (f66s5 c)):=by kernel_rfl
def f66t4 N c a b d e f (K:KT J):=vQ (λk=>dE.Z5 N c a b d e f k) (f66t5 N c a b d e f _) (gz λa b=>f66t10 N a b K)
def f66t2 N a b c d (K:KT J):=vQ (λk=>dE.Z3 N a b c d k) (f66t3 N a b c d _) (da λa e f b c d=>f66t4 N a e f b c d K)
def f66t0 N b a (K:KT J):=vQ (λk=>dE.Z1 N b a k) (f66t1 N b a _) (d9 λa c d e=>f66t2 N a c d e K)
def f66ok(h:dE.Spec):aG Try.prog 66 Ak :=
 bQ Try.func66 bv f66GOk (λN X K=>f66t0 N X.1 X.2.1 K) (by kernel_rfl) λX hb hp=>by obtain⟨a,b,_⟩:=X;obtain⟨N,h⟩:=h a b hb.1 hp;exact⟨N,Eq.trans (by kernel_rfl) (h N (Nat.le_refl N))⟩
def e66ok:aG Try.prog 66 Ak:=f66ok dE.ok
def Hz:bC:=⟨[⟨.pair (.int .i64) (.pair (.int .i64) (.sl 3 (.int .i64))),true,false⟩,⟨.sl 3 (.int .i64),false,false⟩,⟨.int .i64,false,false⟩],[⟨.int .i64,false,false⟩]⟩
def Am:a8:=⟨Hz,none,λX=>((),((gc.g X.1 X.2.1 X.2.2.1),()))⟩
def HA:Gm:=aY (aY (aY bk 57 rA) 65 oF) 66 Ak
def f21GOk:au Try.prog HA:=(((au.nil).add zU (by kernel_rfl)).add ux (by kernel_rfl)).add e66ok (by kernel_rfl)
def f21lE:aa:=⟨[],[],[],[],[]⟩
def f21s0(a:MT)(b:LI)(c:Int):St:=bH Hz.ps (a,(b,(c,())))
def f21s1(a:Int):St:=ah [(6,xi a)] [] []
def f21l1:aa:=⟨[6],[],[],[],[]⟩
def f21B:Nat->Option aa:=aA [(1000000,f21l1)]
abbrev f21j{J:Type}(N n:Nat)(V:St)(l:aa)(K:KT J):Option J:=ak HA bm f21B N (bf 99 (bu Try.f21) n) .n V (ax (some l) K)
def f21t0 N a b c (K:KT J):f21j N 1 (f21s0 a b c) f21lE K =
 gc.Z0 N a b c (λd=>K .ret (f21s1 d)):=by kernel_rfl
def f21ok(h:gc.Spec):aG Try.prog 21 Am :=
 bQ Try.func21 bv f21GOk (λN X K=>f21t0 N X.1 X.2.1 X.2.2.1 K) (by kernel_rfl) λX hb hp=>by obtain⟨a,b,c,_⟩:=X;obtain⟨N,h⟩:=h a b c hb.1 hb.2.1;exact⟨N,Eq.trans (by kernel_rfl) (h N (Nat.le_refl N))⟩
def e21ok:aG Try.prog 21 Am:=f21ok gc.ok
def HB:bC:=⟨[⟨.pair (.int .i64) (.pair (.int .i64) (.sl 3 (.int .i64))),true,false⟩,⟨.int .i64,false,false⟩,⟨.int .i64,false,false⟩],[⟨.int .i64,false,false⟩]⟩
def An:a8:=⟨HB,(some λX=>dZ.P X.1 X.2.1 X.2.2.1),λX=>((),((dZ.g X.1 X.2.1 X.2.2.1),()))⟩
def HC:Gm:=bk
def f22GOk:au Try.prog HC:=au.nil
def f22lE:aa:=⟨[],[],[],[],[]⟩
def f22s0(a:MT)(b c:Int):St:=bH HB.ps (a,(b,(c,())))
def f22s1(a:Int):St:=ah [(6,xi a)] [] []
def f22l1:aa:=⟨[6],[],[],[],[]⟩
def f22B:Nat->Option aa:=aA [(1000000,f22l1)]
abbrev f22j{J:Type}(N n:Nat)(V:St)(l:aa)(K:KT J):Option J:=ak HC bm f22B N (bf 99 (bu Try.f22) n) .n V (ax (some l) K)
def f22t0 N a b c (K:KT J):f22j N 1 (f22s0 a b c) f22lE K =
 dZ.Z0 N a b c (λd=>K .ret (f22s1 d)):=by kernel_rfl
def f22ok(h:dZ.Spec):aG Try.prog 22 An :=
 bQ Try.func22 bv f22GOk (λN X K=>f22t0 N X.1 X.2.1 X.2.2.1 K) (by kernel_rfl) λX hb hp=>by obtain⟨a,b,c,_⟩:=X;obtain⟨N,h⟩:=h a b c hb.1 hp;exact⟨N,Eq.trans (by kernel_rfl) (h N (Nat.le_refl N))⟩
def e22ok:aG Try.prog 22 An:=f22ok dZ.ok
def HD:bC:=⟨[⟨.sl 5 (.int .u8),false,false⟩],[⟨.bool,false,false⟩]⟩
def e3:a8:=⟨HD,none,λX=>((),((a9.g X.1),()))⟩
def HE:Gm:=aY (aY (aY (aY (aY (aY (aY (aY (aY (aY bk 13 yH) 14 zz) 15 zY) 16 z5) 17 Ab) 18 Ad) 19 Ae) 20 Ah) 21 Am) 22 An
def f3GOk:au Try.prog HE:=((((((((((au.nil).add M5 (by kernel_rfl)).add Xa (by kernel_rfl)).add e15ok (by kernel_rfl)).add e16ok (by kernel_rfl)).add e17ok (by kernel_rfl)).add e18ok (by kernel_rfl)).add e19ok (by kernel_rfl)).add e20ok (by kernel_rfl)).add e21ok (by kernel_rfl)).add e22ok (by kernel_rfl)
def f3lE:aa:=⟨[],[],[],[],[]⟩
def f3s0(a:List Int):St:=bH HD.ps (a,())
def uZ(a:List Int):St:=ah [(0,.c (.sn 5 (.int .u8) a none))] [] []
def HF:aa:=⟨[0],[],[],[],[]⟩
def HG(a b:LI)(c d:Int):St:=ah [(3,xb 3),(5,xo 1000320)] [(3,(26,[yi c,yi d,.own 20000194]))] [(1000320,(⟨3,.int .i64,a,true,false⟩:ac)),(20000194,(⟨3,.int .i64,b,true,false⟩:ac))]
def f3l2:aa:=⟨[3,5],[3],[],[],[(⟨false,5,0⟩,1000320),(⟨true,3,2⟩,20000194)]⟩
def HH(a:LI)(b:LL)(c:LI)(d:Bool)(e f:Int):St:=ah [(3,xb 3),(5,xo 1000320),(6,xo 1000384),(7,xB d)] [(3,(26,[yi e,yi f,.own 20000194]))] [(1000320,(⟨3,.int .i64,a,true,false⟩:ac)),(1000384,(⟨24,.sl 3 tI,b,true,false⟩:ac)),(20000194,(⟨3,.int .i64,c,true,false⟩:ac))]
def f3l3:aa:=⟨[3,5,6,7],[3],[],[],[(⟨false,5,0⟩,1000320),(⟨false,6,0⟩,1000384),(⟨true,3,2⟩,20000194)]⟩
def HI(a:LI)(b c:LL)(d:LI)(e f:Bool)(g h:Int):St:=ah [(3,xb 3),(5,xo 1000320),(6,xo 1000384),(7,xB e),(8,xo 1000512),(9,xB f)] [(3,(26,[yi g,yi h,.own 20000194]))] [(1000320,(⟨3,.int .i64,a,true,false⟩:ac)),(1000384,(⟨24,.sl 3 tI,b,true,false⟩:ac)),(1000512,(⟨24,.sl 3 tI,c,true,false⟩:ac)),(20000194,(⟨3,.int .i64,d,true,false⟩:ac))]
def f3l4:aa:=⟨[3,5,6,7,8,9],[3],[],[],[(⟨false,5,0⟩,1000320),(⟨false,6,0⟩,1000384),(⟨false,8,0⟩,1000512),(⟨true,3,2⟩,20000194)]⟩
def HJ(a:LI)(b c:LL)(d e:LI)(f g h:Bool)(i j l m:Int):St:=ah [(3,xb 3),(5,xo 1000320),(6,xo 1000384),(7,xB f),(8,xo 1000512),(9,xB g),(10,xb 10),(11,xB h)] [(3,(26,[yi i,yi j,.own 20000194])),(10,(26,[yi l,yi m,.own 20000642]))] [(1000320,(⟨3,.int .i64,a,true,false⟩:ac)),(1000384,(⟨24,.sl 3 tI,b,true,false⟩:ac)),(1000512,(⟨24,.sl 3 tI,c,true,false⟩:ac)),(20000194,(⟨3,.int .i64,d,true,false⟩:ac)),(20000642,(⟨3,.int .i64,e,true,false⟩:ac))]
def f3l5:aa:=⟨[3,5,6,7,8,9,10,11],[3,10],[],[],[(⟨false,5,0⟩,1000320),(⟨false,6,0⟩,1000384),(⟨false,8,0⟩,1000512),(⟨true,3,2⟩,20000194),(⟨true,10,2⟩,20000642)]⟩
def HK(a:LI)(b c:LL)(d e f:LI)(g h i:Bool)(j l m o:Int):St:=ah [(3,xb 3),(5,xo 1000320),(6,xo 1000384),(7,xB g),(8,xo 1000512),(9,xB h),(10,xb 10),(11,xB i),(12,xo 1000768)] [(3,(26,[yi j,yi l,.own 20000194])),(10,(26,[yi m,yi o,.own 20000642]))] [(1000320,(⟨3,.int .i64,a,true,false⟩:ac)),(1000384,(⟨24,.sl 3 tI,b,true,false⟩:ac)),(1000512,(⟨24,.sl 3 tI,c,true,false⟩:ac)),(1000768,(⟨3,.int .i64,d,true,false⟩:ac)),(20000194,(⟨3,.int .i64,e,true,false⟩:ac)),(20000642,(⟨3,.int .i64,f,true,false⟩:ac))]
def f3l6:aa:=⟨[3,5,6,7,8,9,10,11,12],[3,10],[],[],[(⟨false,5,0⟩,1000320),(⟨false,6,0⟩,1000384),(⟨false,8,0⟩,1000512),(⟨false,12,0⟩,1000768),(⟨true,3,2⟩,20000194),(⟨true,10,2⟩,20000642)]⟩
def HL(a:LI)(b c:LL)(d e f:LI)(g h i:Bool)(j l m o p:Int):St:=ah [(3,xb 3),(5,xo 1000320),(6,xo 1000384),(7,xB g),(8,xo 1000512),(9,xB h),(10,xb 10),(11,xB i),(12,xo 1000768),(13,xi j)] [(3,(26,[yi l,yi m,.own 20000194])),(10,(26,[yi o,yi p,.own 20000642]))] [(1000320,(⟨3,.int .i64,a,true,false⟩:ac)),(1000384,(⟨24,.sl 3 tI,b,true,false⟩:ac)),(1000512,(⟨24,.sl 3 tI,c,true,false⟩:ac)),(1000768,(⟨3,.int .i64,d,true,false⟩:ac)),(20000194,(⟨3,.int .i64,e,true,false⟩:ac)),(20000642,(⟨3,.int .i64,f,true,false⟩:ac))]
def f3l7:aa:=⟨[3,5,6,7,8,9,10,11,12,13],[3,10],[],[],[(⟨false,5,0⟩,1000320),(⟨false,6,0⟩,1000384),(⟨false,8,0⟩,1000512),(⟨false,12,0⟩,1000768),(⟨true,3,2⟩,20000194),(⟨true,10,2⟩,20000642)]⟩
def u1(a:LI)(b c:LL)(d e f:LI)(g h i j l:Int):St:=ah [(3,xb 3),(5,xo 1000320),(6,xo 1000384),(8,xo 1000512),(10,xb 10),(12,xo 1000768),(13,xi g)] [(3,(26,[yi h,yi i,.own 20000194])),(10,(26,[yi j,yi l,.own 20000642]))] [(1000320,(⟨3,.int .i64,a,true,false⟩:ac)),(1000384,(⟨24,.sl 3 tI,b,true,false⟩:ac)),(1000512,(⟨24,.sl 3 tI,c,true,false⟩:ac)),(1000768,(⟨3,.int .i64,d,true,false⟩:ac)),(20000194,(⟨3,.int .i64,e,true,false⟩:ac)),(20000642,(⟨3,.int .i64,f,true,false⟩:ac))]
def HM:aa:=⟨[3,5,6,8,10,12,13],[3,10],[],[],[(⟨false,5,0⟩,1000320),(⟨false,6,0⟩,1000384),(⟨false,8,0⟩,1000512),(⟨false,12,0⟩,1000768),(⟨true,3,2⟩,20000194),(⟨true,10,2⟩,20000642)]⟩
def HN(a:LI)(b c:LL)(d e f:LI)(g h i j l m o:Int):St:=ah [(3,xb 3),(5,xo 1000320),(6,xo 1000384),(8,xo 1000512),(10,xb 10),(12,xo 1000768),(13,xi g),(14,xi h),(15,xi i)] [(3,(26,[yi j,yi l,.own 20000194])),(10,(26,[yi m,yi o,.own 20000642]))] [(1000320,(⟨3,.int .i64,a,true,false⟩:ac)),(1000384,(⟨24,.sl 3 tI,b,true,false⟩:ac)),(1000512,(⟨24,.sl 3 tI,c,true,false⟩:ac)),(1000768,(⟨3,.int .i64,d,true,false⟩:ac)),(20000194,(⟨3,.int .i64,e,true,false⟩:ac)),(20000642,(⟨3,.int .i64,f,true,false⟩:ac))]
def f3l9:aa:=⟨[3,5,6,8,10,12,13,14,15],[3,10],[],[],[(⟨false,5,0⟩,1000320),(⟨false,6,0⟩,1000384),(⟨false,8,0⟩,1000512),(⟨false,12,0⟩,1000768),(⟨true,3,2⟩,20000194),(⟨true,10,2⟩,20000642)]⟩
def fK(a:LI)(b c:LL)(d e f:LI)(g h i j l m:Int):St:=ah [(3,xb 3),(5,xo 1000320),(6,xo 1000384),(8,xo 1000512),(10,xb 10),(12,xo 1000768),(13,xi g),(16,xi h)] [(3,(26,[yi i,yi j,.own 20000194])),(10,(26,[yi l,yi m,.own 20000642]))] [(1000320,(⟨3,.int .i64,a,true,false⟩:ac)),(1000384,(⟨24,.sl 3 tI,b,true,false⟩:ac)),(1000512,(⟨24,.sl 3 tI,c,true,false⟩:ac)),(1000768,(⟨3,.int .i64,d,true,false⟩:ac)),(20000194,(⟨3,.int .i64,e,true,false⟩:ac)),(20000642,(⟨3,.int .i64,f,true,false⟩:ac))]
def kq:aa:=⟨[3,5,6,8,10,12,13,16],[3,10],[],[],[(⟨false,5,0⟩,1000320),(⟨false,6,0⟩,1000384),(⟨false,8,0⟩,1000512),(⟨false,12,0⟩,1000768),(⟨true,3,2⟩,20000194),(⟨true,10,2⟩,20000642)]⟩
def ku(a:LI)(b c:LL)(d e f:LI)(g h i j l m o:Int):St:=ah [(3,xb 3),(5,xo 1000320),(6,xo 1000384),(8,xo 1000512),(10,xb 10),(12,xo 1000768),(13,xi g),(16,xi h),(17,xi i)] [(3,(26,[yi j,yi l,.own 20000194])),(10,(26,[yi m,yi o,.own 20000642]))] [(1000320,(⟨3,.int .i64,a,true,false⟩:ac)),(1000384,(⟨24,.sl 3 tI,b,true,false⟩:ac)),(1000512,(⟨24,.sl 3 tI,c,true,false⟩:ac)),(1000768,(⟨3,.int .i64,d,true,false⟩:ac)),(20000194,(⟨3,.int .i64,e,true,false⟩:ac)),(20000642,(⟨3,.int .i64,f,true,false⟩:ac))]
def oT:aa:=⟨[3,5,6,8,10,12,13,16,17],[3,10],[],[],[(⟨false,5,0⟩,1000320),(⟨false,6,0⟩,1000384),(⟨false,8,0⟩,1000512),(⟨false,12,0⟩,1000768),(⟨true,3,2⟩,20000194),(⟨true,10,2⟩,20000642)]⟩
def HO(a:LI)(b c:LL)(d e f:LI)(g h i j l m o p:Int):St:=ah [(3,xb 3),(5,xo 1000320),(6,xo 1000384),(8,xo 1000512),(10,xb 10),(12,xo 1000768),(13,xi g),(16,xi h),(17,xi i),(18,xi j)] [(3,(26,[yi l,yi m,.own 20000194])),(10,(26,[yi o,yi p,.own 20000642]))] [(1000320,(⟨3,.int .i64,a,true,false⟩:ac)),(1000384,(⟨24,.sl 3 tI,b,true,false⟩:ac)),(1000512,(⟨24,.sl 3 tI,c,true,false⟩:ac)),(1000768,(⟨3,.int .i64,d,true,false⟩:ac)),(20000194,(⟨3,.int .i64,e,true,false⟩:ac)),(20000642,(⟨3,.int .i64,f,true,false⟩:ac))]
def f3l12:aa:=⟨[3,5,6,8,10,12,13,16,17,18],[3,10],[],[],[(⟨false,5,0⟩,1000320),(⟨false,6,0⟩,1000384),(⟨false,8,0⟩,1000512),(⟨false,12,0⟩,1000768),(⟨true,3,2⟩,20000194),(⟨true,10,2⟩,20000642)]⟩
def HP(a:LI)(b c:LL)(d e f:LI)(g h i j l m o p q:Int):St:=ah [(3,xb 3),(5,xo 1000320),(6,xo 1000384),(8,xo 1000512),(10,xb 10),(12,xo 1000768),(13,xi g),(16,xi h),(17,xi i),(18,xi j),(19,xi l)] [(3,(26,[yi m,yi o,.own 20000194])),(10,(26,[yi p,yi q,.own 20000642]))] [(1000320,(⟨3,.int .i64,a,true,false⟩:ac)),(1000384,(⟨24,.sl 3 tI,b,true,false⟩:ac)),(1000512,(⟨24,.sl 3 tI,c,true,false⟩:ac)),(1000768,(⟨3,.int .i64,d,true,false⟩:ac)),(20000194,(⟨3,.int .i64,e,true,false⟩:ac)),(20000642,(⟨3,.int .i64,f,true,false⟩:ac))]
def f3l13:aa:=⟨[3,5,6,8,10,12,13,16,17,18,19],[3,10],[],[],[(⟨false,5,0⟩,1000320),(⟨false,6,0⟩,1000384),(⟨false,8,0⟩,1000512),(⟨false,12,0⟩,1000768),(⟨true,3,2⟩,20000194),(⟨true,10,2⟩,20000642)]⟩
def m9(a:LI)(b c:LL)(d e f:LI)(g h i j l m o p q r:Int):St:=ah [(3,xb 3),(5,xo 1000320),(6,xo 1000384),(8,xo 1000512),(10,xb 10),(12,xo 1000768),(13,xi g),(16,xi h),(17,xi i),(18,xi j),(19,xi l),(20,xi m)] [(3,(26,[yi o,yi p,.own 20000194])),(10,(26,[yi q,yi r,.own 20000642]))] [(1000320,(⟨3,.int .i64,a,true,false⟩:ac)),(1000384,(⟨24,.sl 3 tI,b,true,false⟩:ac)),(1000512,(⟨24,.sl 3 tI,c,true,false⟩:ac)),(1000768,(⟨3,.int .i64,d,true,false⟩:ac)),(20000194,(⟨3,.int .i64,e,true,false⟩:ac)),(20000642,(⟨3,.int .i64,f,true,false⟩:ac))]
def u2:aa:=⟨[3,5,6,8,10,12,13,16,17,18,19,20],[3,10],[],[],[(⟨false,5,0⟩,1000320),(⟨false,6,0⟩,1000384),(⟨false,8,0⟩,1000512),(⟨false,12,0⟩,1000768),(⟨true,3,2⟩,20000194),(⟨true,10,2⟩,20000642)]⟩
def u3(a:LI)(b c:LL)(d e f:LI)(g h i j l m o p q r s:Int):St:=ah [(3,xb 3),(5,xo 1000320),(6,xo 1000384),(8,xo 1000512),(10,xb 10),(12,xo 1000768),(13,xi g),(16,xi h),(17,xi i),(18,xi j),(19,xi l),(20,xi m),(21,xi o)] [(3,(26,[yi p,yi q,.own 20000194])),(10,(26,[yi r,yi s,.own 20000642]))] [(1000320,(⟨3,.int .i64,a,true,false⟩:ac)),(1000384,(⟨24,.sl 3 tI,b,true,false⟩:ac)),(1000512,(⟨24,.sl 3 tI,c,true,false⟩:ac)),(1000768,(⟨3,.int .i64,d,true,false⟩:ac)),(20000194,(⟨3,.int .i64,e,true,false⟩:ac)),(20000642,(⟨3,.int .i64,f,true,false⟩:ac))]
def HQ:aa:=⟨[3,5,6,8,10,12,13,16,17,18,19,20,21],[3,10],[],[],[(⟨false,5,0⟩,1000320),(⟨false,6,0⟩,1000384),(⟨false,8,0⟩,1000512),(⟨false,12,0⟩,1000768),(⟨true,3,2⟩,20000194),(⟨true,10,2⟩,20000642)]⟩
def oU :St:=ah [] [] []
def Ao:aa:=⟨[],[],[],[],[]⟩
def dU(a:Bool):St:=ah [(2,xB a)] [] []
def f3l17:aa:=⟨[2],[],[],[],[]⟩
def f3B:Nat->Option aa:=aA [(4,u2),(3,oT),(2,kq),(1,kq),(0,Ao),(1000000,f3l17)]
abbrev dh{J:Type}(N n:Nat)(V:St)(l:aa)(K:KT J):Option J:=ak HE bm f3B N (bf 99 (bu Try.f3) n) .n V (ax (some l) K)
def f3t1 N a (K:KT J):dh N 2 (f3s0 a) HF K =
 a9.Z1 N a (λa=>K .nrm (uZ a)):=by kernel_rfl
def f3t3 N a (K:KT J):dh N 5 (uZ a) HF K =
 a9.Z3 N a (λa=>K .nrm (uZ a)) (λb=>K .ret (dU b)):=by kernel_rfl
def f3t5 N a (K:KT J):dh N 11 (uZ a) f3l2 K =
 a9.Z5 N a (λb c d e=>K .nrm (HG b c d e)):=by kernel_rfl
def f3t7 N a b c d (K:KT J):dh N 23 (HG a b c d) f3l3 K =
 a9.Z7 N a b c d (λa e b f c d=>K .nrm (HH a e b f c d)):=by kernel_rfl
def f3t9 N a b c d e f (K:KT J):dh N 47 (HH a b c d e f) f3l4 K =
 a9.Z9 N a b c d e f (λa b g c d h e f=>K .nrm (HI a b g c d h e f)):=by kernel_rfl
def f3t11 N a b c d e f g h (K:KT J):dh N 95 (HI a b c d e f g h) f3l5 K =
 a9.Z11 N a b c d e f g h (λa b c d i e f j g h l m=>K .nrm (HJ a b c d i e f j g h l m)):=by kernel_rfl
def f3t13 N a b c d e f g h i j l m (K:KT J):dh N 191 (HJ a b c d e f g h i j l m) f3l6 K =
 a9.Z13 N a b c d e f g h i j l m (λa b c o d e f g h i j l m=>K .nrm (HK a b c o d e f g h i j l m)):=by kernel_rfl
def f3t15 N a b c d e f g h i j l m o (K:KT J):dh N 383 (HK a b c d e f g h i j l m o) f3l7 K =
 a9.Z15 N a b c d e f g h i j l m o (λa b c d e f g h i p j l m o=>K .nrm (HL a b c d e f g h i p j l m o)):=by kernel_rfl
def f3t17 N a b c d e f m o p g h i j l (K:KT J):dh N 767 (HL a b c d e f m o p g h i j l) HM K =
 a9.Z17 N a b c d e f m o p g h i j l (λa b c d e f g h i j l=>K .nrm (u1 a b c d e f g h i j l)) (λq=>K .ret (dU q)):=by kernel_rfl
def f3t19 N a b c d e f g h i j l (K:KT J):dh N 1535 (u1 a b c d e f g h i j l) f3l9 K =
 a9.Z19 N a b c d e f g h i j l (λa b c d e f g m o h i j l=>K .nrm (HN a b c d e f g m o h i j l)):=by kernel_rfl
def f3t21 N a b c d e f g m o h i j l (K:KT J):dh N 3071 (HN a b c d e f g m o h i j l) HM K =
 a9.Z21 N a b c d e f g m o h i j l (λa b c d e f g h i j l=>K .nrm (u1 a b c d e f g h i j l)) (λp=>K .ret (dU p)):=by kernel_rfl
def f3t24 N a b c d e f g h i j l (K:KT J):dh N 10239 (u1 a b c d e f g h i j l) kq K =
 a9.Z24 N a b c d e f g h i j l (λa b c d e f g m h i j l=>K .nrm (fK a b c d e f g m h i j l)):=by kernel_rfl
def f3t28 N a b c d e f g h i j l m (K:KT J):dh N 71679 (fK a b c d e f g h i j l m) kq K =
 a9.Z28 N a b c d e f g h i j l m (λa b c d e f g h i j l m=>K .nrm (fK a b c d e f g h i j l m)) (K (.exit 0) oU):=by kernel_rfl
def f3t32 N a b c d e f g h i j l m (K:KT J):dh N 563199 (fK a b c d e f g h i j l m) kq K =
 a9.Z32 N a b c d e f g h i j l m (λa b c d e f g h i j l m=>K .nrm (fK a b c d e f g h i j l m)) (λo=>K .ret (dU o)):=by kernel_rfl
def f3t34 N a b c d e f g h i j l m (K:KT J):dh N 1349631 (fK a b c d e f g h i j l m) oT K =
 a9.Z34 N a b c d e f g h i j l m (λa b c d e f g h o i j l m=>K .nrm (ku a b c d e f g h o i j l m)):=by kernel_rfl
def f3t38 N a b c d e f g h o i j l m (K:KT J):dh N 9213951 (ku a b c d e f g h o i j l m) oT K =
 a9.Z38 N a b c d e f g h o i j l m (λa b c d e f g h o i j l m=>K .nrm (ku a b c d e f g h o i j l m)) (λa b c d e f g h i j l m=>K (.exit 2) (fK a b c d e f g h i j l m)):=by kernel_rfl
def f3t42 N a b c d e f g h i j l m o (K:KT J):dh N 72128511 (ku a b c d e f g h i j l m o) f3l12 K =
 a9.Z42 N a b c d e f g h i j l m o (λa b c d e f g h i p j l m o=>K .nrm (HO a b c d e f g h i p j l m o)):=by kernel_rfl
def f3t44 N a b c d e f g h i j l m o p (K:KT J):dh N 172791807 (HO a b c d e f g h i j l m o p) f3l13 K =
 a9.Z44 N a b c d e f g h i j l m o p (λa b c d e f g h i j q l m o p=>K .nrm (HP a b c d e f g h i j q l m o p)):=by kernel_rfl
def f3t46 N a b c d e f g h i j l m o p q (K:KT J):dh N 374118399 (HP a b c d e f g h i j l m o p q) u2 K =
 a9.Z46 N a b c d e f g h i j l m o p q (λa b c d e f g h i j l r m o p q=>K .nrm (m9 a b c d e f g h i j l r m o p q)):=by kernel_rfl
def f3t49 N a b c d e f g h i j l m o p q r (K:KT J):dh N 1313642495 (m9 a b c d e f g h i j l m o p q r) HQ K =
 a9.Z49 N a b c d e f g h i j l m o p q r (λa b c d e f g h i j l m s o p q r=>K .nrm (u3 a b c d e f g h i j l m s o p q r)):=by kernel_rfl
def f3t52 N a b c d e f g h i j l m s o p q r (K:KT J):dh N 5071738879 (u3 a b c d e f g h i j l m s o p q r) HQ K =
 a9.Z52 N a b c d e f g h i j l m s o p q r (λa b c d e f g h i j l m s o p q r=>K .nrm (u3 a b c d e f g h i j l m s o p q r)) (λa b c d e f g h i j l m o p q r=>K (.exit 4) (m9 a b c d e f g h i j l m o p q r)):=by kernel_rfl
def f3t51L N (K:KT J):=BZ K (a9.Z51L N (λa b c d e f g h i j l m o p q r=>K (.exit 4) (m9 a b c d e f g h i j l m o p q r))) (λa b c d e f g h i j l m s o p q r k=>a9.Z52 N a b c d e f g h i j l m s o p q r k (λa b c d e f g h i j l m o p q r=>K (.exit 4) (m9 a b c d e f g h i j l m o p q r))) (λF a b c d e f g h i j l m s o p q r=>f3t52 N a b c d e f g h i j l m s o p q r _) (by kernel_rfl)
def f3t51 N a b c d e f g h i j l m o p q r s (K:KT J):=vL (u3 a b c d e f g h i j l m o p q r s) (f3t51L N (jK u2 K) N a b c d e f g h i j l m o p q r s) (by kernel_rfl)
def f3t50 N a b c d e f g h i j l m s o p q r (K:KT J):=vB 4 u2 K (a9.Z50 N a b c d e f g h i j l m s o p q r (λa b c d e f g h i j l m o p q r=>K .nrm (m9 a b c d e f g h i j l m o p q r))) (f3t51 N a b c d e f g h i j l m s o p q r _) (by kernel_rfl)
def f3t48 N a b c d e f g h i j l m o p q r (K:KT J):=vQ (λk=>a9.Z49 N a b c d e f g h i j l m o p q r k) (f3t49 N a b c d e f g h i j l m o p q r _) (xt λa b c d e f g h i j l m s o p q r=>f3t50 N a b c d e f g h i j l m s o p q r K)
def f3t53 N a b c d e f g h i p q r j l m o (K:KT J):dh N 1045207039 (m9 a b c d e f g h i p q r j l m o) oT K =
 a9.Z53 N a b c d e f g h i p q r j l m o (λa b c d e f g h i j l m o=>K .nrm (ku a b c d e f g h i j l m o)) (λs=>K .ret (dU s)):=by kernel_rfl
def f3t47 N a b c d e f g h i j l m o p q r (K:KT J):=vQ (λk=>a9.Z48 N a b c d e f g h i j l m o p q r k) (f3t48 N a b c d e f g h i j l m o p q r _) (nS λa b c d e f g h i j l m o p q r=>f3t53 N a b c d e f g h i j l m o p q r K)
def f3t45 N a b c d e f g h i j l m o p q (K:KT J):=vQ (λk=>a9.Z46 N a b c d e f g h i j l m o p q k) (f3t46 N a b c d e f g h i j l m o p q _) (nS λa b c d e f g h i j l r m o p q=>f3t47 N a b c d e f g h i j l r m o p q K)
def f3t43 N a b c d e f g h i j l m o p (K:KT J):=vQ (λk=>a9.Z44 N a b c d e f g h i j l m o p k) (f3t44 N a b c d e f g h i j l m o p _) (qb λa b c d e f g h i j q l m o p=>f3t45 N a b c d e f g h i j q l m o p K)
def f3t41 N a b c d e f g h i j l m o (K:KT J):=vQ (λk=>a9.Z42 N a b c d e f g h i j l m o k) (f3t42 N a b c d e f g h i j l m o _) (nR λa b c d e f g h i p j l m o=>f3t43 N a b c d e f g h i p j l m o K)
def f3t40 N a b c d e f g h i j l m o (K:KT J):=vB 3 oT K (a9.Z40 N a b c d e f g h i j l m o (λa b c d e f g h i j l m o=>K .nrm (ku a b c d e f g h i j l m o)) (λp=>K .ret (dU p))) (f3t41 N a b c d e f g h i j l m o _) (by kernel_rfl)
def f3t54 N a b c d e f g h i j l m o (K:KT J):dh N 30185471 (ku a b c d e f g h i j l m o) oT K =
 a9.Z54 N a b c d e f g h i j l m o (λa b c d e f g h i j l m o=>K .nrm (ku a b c d e f g h i j l m o)):=by kernel_rfl
def f3t39 N a b c d e f g h i j l m o (K:KT J):=vQ (λk=>a9.Z40 N a b c d e f g h i j l m o k (λp=>K .ret (dU p))) (f3t40 N a b c d e f g h i j l m o _) (iG λa b c d e f g h i j l m o=>f3t54 N a b c d e f g h i j l m o K)
def f3t37 N a b c d e f g h o i j l m (K:KT J):=vQ (λk=>a9.Z38 N a b c d e f g h o i j l m k (λa b c d e f g h i j l m=>K (.exit 2) (fK a b c d e f g h i j l m))) (f3t38 N a b c d e f g h o i j l m _) (iG λa b c d e f g h o i j l m=>f3t39 N a b c d e f g h o i j l m K)
def f3t36L N (K:KT J):=s9 K (a9.Z36L N (λa b c d e f g h i j l m=>K (.exit 2) (fK a b c d e f g h i j l m)) (λo=>K .ret (dU o))) (λa b c d e f g h p i j l m k=>a9.Z37 N a b c d e f g h p i j l m k (λa b c d e f g h i j l m=>K (.exit 2) (fK a b c d e f g h i j l m)) (λo=>K .ret (dU o))) (λF a b c d e f g h p i j l m=>f3t37 N a b c d e f g h p i j l m _) (by kernel_rfl)
def f3t36 N a b c d e f g h i j l m o (K:KT J):=vL (ku a b c d e f g h i j l m o) (f3t36L N (jK kq K) N a b c d e f g h i j l m o) (by kernel_rfl)
def f3t35 N a b c d e f g h o i j l m (K:KT J):=vB 2 kq K (a9.Z35 N a b c d e f g h o i j l m (λa b c d e f g h i j l m=>K .nrm (fK a b c d e f g h i j l m)) (λp=>K .ret (dU p))) (f3t36 N a b c d e f g h o i j l m _) (by kernel_rfl)
def f3t33 N a b c d e f g h i j l m (K:KT J):=vQ (λk=>a9.Z34 N a b c d e f g h i j l m k) (f3t34 N a b c d e f g h i j l m _) (iG λa b c d e f g h o i j l m=>f3t35 N a b c d e f g h o i j l m K)
def f3t31 N a b c d e f g h i j l m (K:KT J):=vQ (λk=>a9.Z32 N a b c d e f g h i j l m k (λo=>K .ret (dU o))) (f3t32 N a b c d e f g h i j l m _) (jo λa b c d e f g h i j l m=>f3t33 N a b c d e f g h i j l m K)
def f3t30 N a b c d e f g h i j l m (K:KT J):=vB 1 kq K (a9.Z30 N a b c d e f g h i j l m (λa b c d e f g h i j l m=>K .nrm (fK a b c d e f g h i j l m)) (λo=>K .ret (dU o))) (f3t31 N a b c d e f g h i j l m _) (by kernel_rfl)
def f3t55 N a b c d e f g h i j l m (K:KT J):dh N 235519 (fK a b c d e f g h i j l m) kq K =
 a9.Z55 N a b c d e f g h i j l m (λa b c d e f g h i j l m=>K .nrm (fK a b c d e f g h i j l m)):=by kernel_rfl
def f3t29 N a b c d e f g h i j l m (K:KT J):=vQ (λk=>a9.Z30 N a b c d e f g h i j l m k (λo=>K .ret (dU o))) (f3t30 N a b c d e f g h i j l m _) (jo λa b c d e f g h i j l m=>f3t55 N a b c d e f g h i j l m K)
def f3t27 N a b c d e f g h i j l m (K:KT J):=vQ (λk=>a9.Z28 N a b c d e f g h i j l m k (K (.exit 0) oU)) (f3t28 N a b c d e f g h i j l m _) (jo λa b c d e f g h i j l m=>f3t29 N a b c d e f g h i j l m K)
def f3t26L N (K:KT J):=qf K (a9.Z26L N (K (.exit 0) oU) (λa=>K .ret (dU a))) (λb c d e f g h i j l m o k=>a9.Z27 N b c d e f g h i j l m o k (K (.exit 0) oU) (λa=>K .ret (dU a))) (λF b c d e f g h i j l m o=>f3t27 N b c d e f g h i j l m o _) (by kernel_rfl)
def f3t26 N a b c d e f g h i j l m (K:KT J):=vL (fK a b c d e f g h i j l m) (f3t26L N (jK Ao K) N a b c d e f g h i j l m) (by kernel_rfl)
def f3t25 N a b c d e f g h i j l m (K:KT J):=vB 0 Ao K (a9.Z25 N a b c d e f g h i j l m (K .nrm oU) (λo=>K .ret (dU o))) (f3t26 N a b c d e f g h i j l m _) (by kernel_rfl)
def f3t23 N a b c d e f g h i j l (K:KT J):=vQ (λk=>a9.Z24 N a b c d e f g h i j l k) (f3t24 N a b c d e f g h i j l _) (jo λa b c d e f g m h i j l=>f3t25 N a b c d e f g m h i j l K)
def f3t56 N  (K:KT J):dh N 8191 oU f3lE K =
 a9.Z56 N (λa=>K .ret (dU a)):=by kernel_rfl
def f3t22 N a b c d e f g h i j l (K:KT J):=vQ (λk=>a9.Z23 N a b c d e f g h i j l k (λm=>K .ret (dU m))) (f3t23 N a b c d e f g h i j l _) (f3t56 N K)
def f3t20 N a b c d e f g m o h i j l (K:KT J):=vQ (λk=>a9.Z21 N a b c d e f g m o h i j l k (λp=>K .ret (dU p))) (f3t21 N a b c d e f g m o h i j l _) (fT λa b c d e f g h i j l=>f3t22 N a b c d e f g h i j l K)
def f3t18 N a b c d e f g h i j l (K:KT J):=vQ (λk=>a9.Z19 N a b c d e f g h i j l k) (f3t19 N a b c d e f g h i j l _) (iG λa b c d e f g m o h i j l=>f3t20 N a b c d e f g m o h i j l K)
def f3t16 N a b c d e f m o p g h i j l (K:KT J):=vQ (λk=>a9.Z17 N a b c d e f m o p g h i j l k (λq=>K .ret (dU q))) (f3t17 N a b c d e f m o p g h i j l _) (fT λa b c d e f g h i j l=>f3t18 N a b c d e f g h i j l K)
def f3t14 N a b c d e f g h i j l m o (K:KT J):=vQ (λk=>a9.Z15 N a b c d e f g h i j l m o k) (f3t15 N a b c d e f g h i j l m o _) (nR λa b c d e f g h i p j l m o=>f3t16 N a b c d e f g h i p j l m o K)
def f3t12 N a b c d e f g h i j l m (K:KT J):=vQ (λk=>a9.Z13 N a b c d e f g h i j l m k) (f3t13 N a b c d e f g h i j l m _) (iG λa b c o d e f g h i j l m=>f3t14 N a b c o d e f g h i j l m K)
def f3t10 N a b c d e f g h (K:KT J):=vQ (λk=>a9.Z11 N a b c d e f g h k) (f3t11 N a b c d e f g h _) (jo λa b c d i e f j g h l m=>f3t12 N a b c d i e f j g h l m K)
def f3t8 N a b c d e f (K:KT J):=vQ (λk=>a9.Z9 N a b c d e f k) (f3t9 N a b c d e f _) (ed λa b g c d h e f=>f3t10 N a b g c d h e f K)
def f3t6 N a b c d (K:KT J):=vQ (λk=>a9.Z7 N a b c d k) (f3t7 N a b c d _) (da λa e b f c d=>f3t8 N a e b f c d K)
def f3t4 N a (K:KT J):=vQ (λk=>a9.Z5 N a k) (f3t5 N a _) (d9 λb c d e=>f3t6 N b c d e K)
def f3t2 N a (K:KT J):=vQ (λk=>a9.Z3 N a k (λb=>K .ret (dU b))) (f3t3 N a _) (funext λa=>f3t4 N a K)
def f3t0 N a (K:KT J):=vQ (λk=>a9.Z1 N a k) (f3t1 N a _) (funext λa=>f3t2 N a K)
def f3ok(h:a9.Spec):aG Try.prog 3 e3 :=
 bQ Try.func3 bv f3GOk (λN X K=>f3t0 N X.1 K) (by kernel_rfl) λX hb hp=>by obtain⟨a,_⟩:=X;obtain⟨N,h⟩:=h a hb.1;exact⟨N,Eq.trans (by kernel_rfl) (h N (Nat.le_refl N))⟩
def e3ok:aG Try.prog 3 e3:=f3ok a9.ok
end Go.Fw
