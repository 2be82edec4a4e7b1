/- The ties: the program's text comes to the plain functions. Nothing is assumed. -/
import Derived.Test.YtakkbbpdfmkbnaaPuFnGreenb
import Derived.Test.YtakkbbpdfmkbnaaTiFnGreena
import Derived.Test.YtakkbbpdfmkbnaaPuFnGreenc
noncomputable section
set_option linter.defProp false
set_option linter.unusedSectionVars false
set_option linter.unusedVariables false
set_option linter.unusedSimpArgs false
set_option maxRecDepth 100000
namespace Go.Fw
variable {J : Type}
open Go.Proofs
def Du:bv:=⟨[⟨.pair (.int .i64) (.pair (.int .i64) (.sl 3 (.int .i64))),true,false⟩,⟨.int .i64,false,false⟩],[⟨.pair (.int .i64) (.pair (.int .i64) (.sl 3 (.int .i64))),true,false⟩,⟨.bool,false,false⟩]⟩
def rN:aW:=⟨Du,none,λX=>((),((a9.g X.1 X.2.1).1,((a9.g X.1 X.2.1).2,())))⟩
def Dv:Gm:=aR (aR (aR ba 61 rG) 65 ma) 79 wF
def X8:aq Try.prog Dv:=(((aq.nil).add C7 (by kernel_rfl)).add rj (by kernel_rfl)).add X7 (by kernel_rfl)
def X9:aa:=⟨[],[],[],[],[]⟩
def Ya(a:MT)(b:Int):St:=bz Du.ps (a,(b,()))
def Yb(a:LI)(b:Bool)(c d:Int):St:=ah [(4,xb 4),(5,xB b)] [(4,(26,[yi c,yi d,.own 20000258]))] [(20000258,(⟨3,.int .i64,a,true,false⟩:ac))]
def Yc:aa:=⟨[4,5],[4],[⟨⟨true,4,2⟩,30000000,3,.int .i64,true⟩],[],[(⟨true,4,2⟩,20000258)]⟩
def Yd:Nat->Option aa:=ay [(1000000,Yc)]
abbrev Ye{J:Type}(N n:Nat)(V:St)(l:aa)(K:KT J):Option J:=ak Dv be Yd N (a6 99 (bf Try.f40) n) .n V (av (some l) K)
def Yf N a b (K:KT J):Ye N 1 (Ya a b) X9 K =
 a9.Z0 N a b (λc d e f=>K .ret (Yb c d e f)):=by kernel_rfl
def Yg(h:a9.Spec):aB Try.prog 40 rN :=
 bI Try.func40 bg X8 (λN X K=>Yf N X.1 X.2.1 K) (by kernel_rfl) λX hb hp=>by obtain⟨a,b,_⟩:=X;obtain⟨N,h⟩:=h a b hb.1;exact⟨N,Eq.trans (by kernel_rfl) (h N (Nat.le_refl N))⟩
def Dw:aB Try.prog 40 rN:=Yg a9.ok
def wH:Rf:=some (78,.pair (.sl 24 (.sl 3 (.int .i64))) (.bool))
def wI:List PT:=[⟨.pair (.int .i64) (.pair (.int .i64) (.sl 3 (.int .i64))),true,false⟩,⟨.sl 3 (.int .i64),false,false⟩]
def Dx:List PT:=[]
def Dy(m:Nat):fe:=⟨wH,wI,Dx,(some (eJ (λX=>cy.mu X.1 X.2.1 X.2.2.1) (λX=>cy.P X.1 X.2.1 X.2.2.1) m)),λX=>((cy.g X.1 X.2.1 X.2.2.1),())⟩
def wJ:fe:=⟨wH,wI,Dx,(some λX=>cy.P X.1 X.2.1 X.2.2.1),λX=>((cy.g X.1 X.2.1 X.2.2.1),())⟩
def Dz(m:Nat):Gm:=addM (aR (aR ba 40 rN) 66 rL) 67 (Dy m)
def Yh(m:Nat)(hself:dL Try.prog 67 (Dy m)):aq Try.prog (Dz m):=(((aq.nil).add Dw (by kernel_rfl)).add Dm (by kernel_rfl)).addM hself (by kernel_rfl)
def Yi(a:LL×Bool)(b:MT)(c:LI):St:=dO wH wI (a,(b,(c,())))
def DA(a:LL)(b:LI)(d:Bool)(e f:Int)(g:LI):St:=ah [(0,xb 100000),(2,.c (.sn 3 tI b none)),(4,xb 4),(100000,xb 100000)] [(100000,(78,[.own 26400000,.bool d])),(4,(26,[yi e,yi f,.sn 3 tI g none]))] [(26400000,(⟨24,.sl 3 tI,a,true,false⟩:ac))]
def Yj:aa:=⟨[0,2,4,100000],[100000,4],[],[],[(⟨true,100000,0⟩,26400000)]⟩
def DB(a:LL)(b:LI)(d e:Bool)(f g:Int)(h:LI):St:=ah [(0,xb 100000),(2,.c (.sn 3 tI b none)),(4,xb 4),(6,xB d),(100000,xb 100000)] [(100000,(78,[.own 26400000,.bool e])),(4,(26,[yi f,yi g,.sn 3 tI h none]))] [(26400000,(⟨24,.sl 3 tI,a,true,false⟩:ac))]
def Yk:aa:=⟨[0,2,4,6,100000],[100000,4],[],[],[(⟨true,100000,0⟩,26400000)]⟩
def rO(a:LL)(b:LI)(d:Bool)(e:Int)(f:Bool)(g h:Int)(i:LI):St:=ah [(0,xb 100000),(2,.c (.sn 3 tI b none)),(4,xb 4),(6,xB d),(7,xi e),(100000,xb 100000)] [(100000,(78,[.own 26400000,.bool f])),(4,(26,[yi g,yi h,.sn 3 tI i none]))] [(26400000,(⟨24,.sl 3 tI,a,true,false⟩:ac))]
def DD:aa:=⟨[0,2,4,6,7,100000],[100000,4],[],[],[(⟨true,100000,0⟩,26400000)]⟩
def ox(a:LL)(b:LI)(d e:Bool):St:=ah [(0,xb 100000),(2,.c (.sn 3 tI b none)),(6,xB d),(100000,xb 100000)] [(100000,(78,[.own 26400000,.bool e]))] [(26400000,(⟨24,.sl 3 tI,a,true,false⟩:ac))]
def wK:aa:=⟨[0,2,6,100000],[100000],[],[],[(⟨true,100000,0⟩,26400000)]⟩
def mi(a:LL)(b:Bool):St:=ah [(100000,xb 100000)] [(100000,(78,[.own 26400000,.bool b]))] [(26400000,(⟨24,.sl 3 tI,a,true,false⟩:ac))]
def DE:aa:=⟨[100000],[100000],[],[],[(⟨true,100000,0⟩,26400000)]⟩
def Yl:Nat->Option aa:=ay [(0,wK),(1000000,DE)]
abbrev oy{J:Type}(N m n:Nat)(V:St)(l:aa)(K:KT J):Option J:=ak (Dz m) be Yl N (a6 99 (bf Try.f67) n) .n V (av (some l) K)
def Ym N m b c a (K:KT J):oy N m 2 (Yi b c a) Yj K =
 cy.Z1 N m b c a (λd a e f g h=>K .nrm (DA d a e f g h)):=by kernel_rfl
def Yn N m a b c d e f (K:KT J):oy N m 5 (DA a b c d e f) Yk K =
 cy.Z3 N m a b c d e f (λa b g c d e f=>K .nrm (DB a b g c d e f)):=by kernel_rfl
def Yo N m a b c d e f g (K:KT J):oy N m 19 (DB a b c d e f g) DD K =
 cy.Z6 N m a b c d e f g (λa b c h d e f g=>K .nrm (rO a b c h d e f g)):=by kernel_rfl
def Yp N m a c d e b f g h (K:KT J):oy N m 75 (rO a c d e b f g h) DD K =
 cy.Z9 N m a c d e b f g h (λa c d e b f g h=>K .nrm (rO a c d e b f g h)) (λa c d b=>K (.exit 0) (ox a c d b)) (λa b=>K .ret (mi a b)):=by kernel_rfl
def Yq N m (K:KT J):=lL K (cy.Z8L N m (λa c d b=>K (.exit 0) (ox a c d b)) (λa b=>K .ret (mi a b))) (λa c d e b f g h k=>cy.Z9 N m a c d e b f g h k (λa c d b=>K (.exit 0) (ox a c d b)) (λa b=>K .ret (mi a b))) (λF a c d e b f g h=>Yp N m a c d e b f g h _) (by kernel_rfl)
def Yr N m a b c d e f g h (K:KT J):=vL (rO a b c d e f g h) (Yq N m (jK wK K) N a b c d e f g h) (by kernel_rfl)
def Ys N m a c d e b f g h (K:KT J):=vB 0 wK K (cy.Z7 N m a c d e b f g h (λa c d b=>K .nrm (ox a c d b)) (λa b=>K .ret (mi a b))) (Yr N m a c d e b f g h _) (by kernel_rfl)
def Yt N m a b c d e f g (K:KT J):=vQ (λk=>cy.Z6 N m a b c d e f g k) (Yo N m a b c d e f g _) (dA λa b c h d e f g=>Ys N m a b c h d e f g K)
def Yu N m a c d b (K:KT J):oy N m 15 (ox a c d b) DE K =
 cy.Z10 N m a c d b (λa b=>K .nrm (mi a b)):=by kernel_rfl
def Yv N m a c d b e f g (K:KT J):=vQ (λk=>cy.Z5 N m a c d b e f g k (λa b=>K .ret (mi a b))) (Yt N m a c d b e f g _) (dQ λa c d b=>Yu N m a c d b K)
def Yw N m a b c d e f (K:KT J):=vQ (λk=>cy.Z3 N m a b c d e f k) (Yn N m a b c d e f _) (eI λa b g c d e f=>Yv N m a b g c d e f K)
def Yx N m b c a (K:KT J):=vQ (λk=>cy.Z1 N m b c a k) (Ym N m b c a _) (dz λd a e f g h=>Yw N m d a e f g h K)
def Yy(h:cy.Spec):dL Try.prog 67 wJ :=
 dL.rec (μ:=λX=>cy.mu X.1 X.2.1 X.2.2.1) (λm hself=>ze Try.func67 bg (Yh m hself) (λN X K=>Yx N m X.1 X.2.1 X.2.2.1 K) (by kernel_rfl) λX hb1 hb2 hp=>by obtain⟨a,b,c,_⟩:=X;obtain⟨N,h⟩:=h m a b c hb1 hb2.1 hb2.2.1 hp;exact⟨N,Eq.trans (by kernel_rfl) (h N (Nat.le_refl N))⟩)
def Yz:dL Try.prog 67 wJ:=Yy cy.ok
def DF:bv:=⟨[⟨.pair (.int .i64) (.pair (.int .i64) (.sl 3 (.int .i64))),true,false⟩],[⟨.sl 24 (.sl 3 (.int .i64)),false,false⟩,⟨.bool,false,false⟩]⟩
def wL:aW:=⟨DF,none,λX=>((),((fS.g X.1).1,((fS.g X.1).2,())))⟩
def DG:Gm:=addM (aR ba 30 rI) 67 wJ
def YA:aq Try.prog DG:=((aq.nil).add Dg (by kernel_rfl)).addM Yz (by kernel_rfl)
def YB:aa:=⟨[],[],[],[],[]⟩
def YC(a:MT):St:=bz DF.ps (a,())
def YD(a:LL)(b:Bool):St:=ah [(2,xo 1000128),(3,xB b)] [] [(1000128,(⟨24,.sl 3 tI,a,true,false⟩:ac))]
def YE:aa:=⟨[2,3],[],[⟨⟨false,2,0⟩,30000000,24,.sl 3 (.int .i64),true⟩],[],[(⟨false,2,0⟩,1000128)]⟩
def YF:Nat->Option aa:=ay [(1000000,YE)]
abbrev YG{J:Type}(N n:Nat)(V:St)(l:aa)(K:KT J):Option J:=ak DG be YF N (a6 99 (bf Try.f24) n) .n V (av (some l) K)
def YH N a (K:KT J):YG N 1 (YC a) YB K =
 fS.Z0 N a (λb c=>K .ret (YD b c)):=by kernel_rfl
def YI(h:fS.Spec):aB Try.prog 24 wL :=
 bI Try.func24 bg YA (λN X K=>YH N X.1 K) (by kernel_rfl) λX hb hp=>by obtain⟨a,_⟩:=X;obtain⟨N,h⟩:=h a hb.1;exact⟨N,Eq.trans (by kernel_rfl) (h N (Nat.le_refl N))⟩
def YJ:aB Try.prog 24 wL:=YI fS.ok
def DH:bv:=⟨[⟨.pair (.int .i64) (.pair (.int .i64) (.sl 3 (.int .i64))),true,false⟩],[⟨.bool,false,false⟩]⟩
def wM:aW:=⟨DH,none,λX=>((),((iK.g X.1),()))⟩
def DI:Gm:=aR ba 72 q7
def YK:aq Try.prog DI:=(aq.nil).add BP (by kernel_rfl)
def YL:aa:=⟨[],[],[],[],[]⟩
def YM(a:MT):St:=bz DH.ps (a,())
def YN(a:Bool):St:=ah [(2,xB a)] [] []
def YO:aa:=⟨[2],[],[],[],[]⟩
def YP:Nat->Option aa:=ay [(1000000,YO)]
abbrev YQ{J:Type}(N n:Nat)(V:St)(l:aa)(K:KT J):Option J:=ak DI be YP N (a6 99 (bf Try.f68) n) .n V (av (some l) K)
def YR N a (K:KT J):YQ N 1 (YM a) YL K =
 iK.Z0 N a (λb=>K .ret (YN b)):=by kernel_rfl
def YS(h:iK.Spec):aB Try.prog 68 wM :=
 bI Try.func68 bg YK (λN X K=>YR N X.1 K) (by kernel_rfl) λX hb hp=>by obtain⟨a,_⟩:=X;obtain⟨N,h⟩:=h a hb.1;exact⟨N,Eq.trans (by kernel_rfl) (h N (Nat.le_refl N))⟩
def YT:aB Try.prog 68 wM:=YS iK.ok
def DJ:bv:=⟨[⟨.pair (.int .i64) (.pair (.int .i64) (.sl 3 (.int .i64))),true,false⟩],[⟨.pair (.int .i64) (.pair (.int .i64) (.sl 3 (.int .i64))),true,false⟩]⟩
def wN:aW:=⟨DJ,(some λX=>cH.P X.1),λX=>((),((cH.g X.1),()))⟩
def DK:Gm:=aR ba 83 oc
def YU:aq Try.prog DK:=(aq.nil).add wb (by kernel_rfl)
def YV:aa:=⟨[],[],[],[],[]⟩
def YW(a:MT):St:=bz DJ.ps (a,())
def DL(a b:Int)(c:LI)(d e:Int):St:=ah [(1,xb 1),(2,xb 2)] [(1,(26,[yi a,yi b,.sn 3 tI c none])),(2,(26,[yi d,yi e,.nil]))] []
def YX:aa:=⟨[1,2],[1,2],[],[],[]⟩
def rP(a:LI)(b c:Int)(d:LI)(e f g h:Int):St:=ah [(1,xb 1),(2,xb 2),(3,xb 3)] [(1,(26,[yi b,yi c,.sn 3 tI d none])),(2,(26,[yi e,yi f,.nil])),(3,(26,[yi g,yi h,.own 20000194]))] [(20000194,(⟨3,.int .i64,a,true,false⟩:ac))]
def DM:aa:=⟨[1,2,3],[1,2,3],[],[],[(⟨true,3,2⟩,20000194)]⟩
def rQ(a:LI)(b c d:Int)(e:LI)(f g h i:Int):St:=ah [(1,xb 1),(2,xb 2),(3,xb 3),(4,xi b)] [(1,(26,[yi c,yi d,.sn 3 tI e none])),(2,(26,[yi f,yi g,.nil])),(3,(26,[yi h,yi i,.own 20000194]))] [(20000194,(⟨3,.int .i64,a,true,false⟩:ac))]
def DN:aa:=⟨[1,2,3,4],[1,2,3],[],[],[(⟨true,3,2⟩,20000194)]⟩
def oz(a:LI)(b c d e:Int):St:=ah [(2,xb 2),(3,xb 3)] [(2,(26,[yi b,yi c,.nil])),(3,(26,[yi d,yi e,.own 20000194]))] [(20000194,(⟨3,.int .i64,a,true,false⟩:ac))]
def wO:aa:=⟨[2,3],[2,3],[],[],[(⟨true,3,2⟩,20000194)]⟩
def YY(a:LI)(b c:Int):St:=ah [(2,xb 2)] [(2,(26,[yi b,yi c,.own 20000130]))] [(20000130,(⟨3,.int .i64,a,true,false⟩:ac))]
def YZ:aa:=⟨[2],[2],[],[],[(⟨true,2,2⟩,20000130)]⟩
def Y0:Nat->Option aa:=ay [(0,wO),(1000000,YZ)]
abbrev mj{J:Type}(N n:Nat)(V:St)(l:aa)(K:KT J):Option J:=ak DK be Y0 N (a6 99 (bf Try.f70) n) .n V (av (some l) K)
def Y1 N a (K:KT J):mj N 2 (YW a) YX K =
 cH.Z1 N a (λb c d e f=>K .nrm (DL b c d e f)):=by kernel_rfl
def Y2 N a b c d e (K:KT J):mj N 5 (DL a b c d e) DM K =
 cH.Z3 N a b c d e (λf a b c d e g h=>K .nrm (rP f a b c d e g h)):=by kernel_rfl
def Y3 N a b c d e f g h (K:KT J):mj N 11 (rP a b c d e f g h) DM K =
 cH.Z5 N a b c d e f g h (λa b c d e f g h=>K .nrm (rP a b c d e f g h)):=by kernel_rfl
def Y4 N a b c d e f g h (K:KT J):mj N 39 (rP a b c d e f g h) DN K =
 cH.Z8 N a b c d e f g h (λa i b c d e f g h=>K .nrm (rQ a i b c d e f g h)):=by kernel_rfl
def Y5 N a f g h i b c d e (K:KT J):mj N 151 (rQ a f g h i b c d e) DN K =
 cH.Z11 N a f g h i b c d e (λa f g h i b c d e=>K .nrm (rQ a f g h i b c d e)) (λa b c d e=>K (.exit 0) (oz a b c d e)):=by kernel_rfl
def Y6 N (K:KT J):=nC K (cH.Z10L N (λa b c d e=>K (.exit 0) (oz a b c d e))) (λa f g h i b c d e k=>cH.Z11 N a f g h i b c d e k (λa b c d e=>K (.exit 0) (oz a b c d e))) (λF a f g h i b c d e=>Y5 N a f g h i b c d e _) (by kernel_rfl)
def Y7 N a b c d e f g h i (K:KT J):=vL (rQ a b c d e f g h i) (Y6 N (jK wO K) N a b c d e f g h i) (by kernel_rfl)
def Y8 N a f g h i b c d e (K:KT J):=vB 0 wO K (cH.Z9 N a f g h i b c d e (λa b c d e=>K .nrm (oz a b c d e))) (Y7 N a f g h i b c d e _) (by kernel_rfl)
def Y9 N a b c d e f g h (K:KT J):=vQ (λk=>cH.Z8 N a b c d e f g h k) (Y4 N a b c d e f g h _) (dB λa i b c d e f g h=>Y8 N a i b c d e f g h K)
def Za N c a b d e (K:KT J):mj N 31 (oz c a b d e) YV K =
 cH.Z12 N c a b d e (λf a b=>K .ret (YY f a b)):=by kernel_rfl
def Zb N a f g h b c d e (K:KT J):=vQ (λk=>cH.Z7 N a f g h b c d e k) (Y9 N a f g h b c d e _) (bZ λa b c d e=>Za N a b c d e K)
def Zc N a b c d e f g h (K:KT J):=vQ (λk=>cH.Z5 N a b c d e f g h k) (Y3 N a b c d e f g h _) (dA λa b c d e f g h=>Zb N a b c d e f g h K)
def Zd N a b c d e (K:KT J):=vQ (λk=>cH.Z3 N a b c d e k) (Y2 N a b c d e _) (dA λf a b c d e g h=>Zc N f a b c d e g h K)
def Ze N a (K:KT J):=vQ (λk=>cH.Z1 N a k) (Y1 N a _) (bZ λb c d e f=>Zd N b c d e f K)
def Zf(h:cH.Spec):aB Try.prog 70 wN :=
 bI Try.func70 bg YU (λN X K=>Ze N X.1 K) (by kernel_rfl) λX hb hp=>by obtain⟨a,_⟩:=X;obtain⟨N,h⟩:=h a hb.1 hp;exact⟨N,Eq.trans (by kernel_rfl) (h N (Nat.le_refl N))⟩
def Zg:aB Try.prog 70 wN:=Zf cH.ok
def DO:bv:=⟨[⟨.pair (.int .i64) (.pair (.int .i64) (.sl 3 (.int .i64))),true,false⟩],[⟨.sl 24 (.sl 3 (.int .i64)),false,false⟩]⟩
def wP:aW:=⟨DO,(some λX=>dk.P X.1),λX=>((),((dk.g X.1),()))⟩
def DP:Gm:=aR ba 98 ob
def Zh:aq Try.prog DP:=(aq.nil).add v9 (by kernel_rfl)
def Zi:aa:=⟨[],[],[],[],[]⟩
def Zj(a:MT):St:=bz DO.ps (a,())
def DQ(a b:Int)(c:LI):St:=ah [(1,xb 1)] [(1,(26,[yi a,yi b,.sn 3 tI c none]))] []
def Zk:aa:=⟨[1],[1],[],[],[]⟩
def DR(a:LL)(b c:Int)(d:LI):St:=ah [(1,xb 1),(3,xo 1000192)] [(1,(26,[yi b,yi c,.sn 3 tI d none]))] [(1000192,(⟨24,.sl 3 tI,a,true,false⟩:ac))]
def Zl:aa:=⟨[1,3],[1],[],[],[(⟨false,3,0⟩,1000192)]⟩
def rR(a:LL)(b c d:Int)(e:LI):St:=ah [(1,xb 1),(3,xo 1000192),(4,xi b)] [(1,(26,[yi c,yi d,.sn 3 tI e none]))] [(1000192,(⟨24,.sl 3 tI,a,true,false⟩:ac))]
def DS:aa:=⟨[1,3,4],[1],[],[],[(⟨false,3,0⟩,1000192)]⟩
def oA(a:LL):St:=ah [(3,xo 1000192)] [] [(1000192,(⟨24,.sl 3 tI,a,true,false⟩:ac))]
def wQ:aa:=⟨[3],[],[],[],[(⟨false,3,0⟩,1000192)]⟩
def Zm(a:LL):St:=ah [(2,xo 1000128)] [] [(1000128,(⟨24,.sl 3 tI,a,true,false⟩:ac))]
def Zn:aa:=⟨[2],[],[],[],[(⟨false,2,0⟩,1000128)]⟩
def Zo:Nat->Option aa:=ay [(0,wQ),(1000000,Zn)]
abbrev oB{J:Type}(N n:Nat)(V:St)(l:aa)(K:KT J):Option J:=ak DP be Zo N (a6 99 (bf Try.f86) n) .n V (av (some l) K)
def Zp N a (K:KT J):oB N 2 (Zj a) Zk K =
 dk.Z1 N a (λb c d=>K .nrm (DQ b c d)):=by kernel_rfl
def Zq N a b c (K:KT J):oB N 5 (DQ a b c) Zl K =
 dk.Z3 N a b c (λd a b c=>K .nrm (DR d a b c)):=by kernel_rfl
def Zr N a b c d (K:KT J):oB N 19 (DR a b c d) DS K =
 dk.Z6 N a b c d (λa e b c d=>K .nrm (rR a e b c d)):=by kernel_rfl
def Zs N a b c d e (K:KT J):oB N 75 (rR a b c d e) DS K =
 dk.Z9 N a b c d e (λa b c d e=>K .nrm (rR a b c d e)) (λa=>K (.exit 0) (oA a)):=by kernel_rfl
def Zt N (K:KT J):=ji K (dk.Z8L N (λa=>K (.exit 0) (oA a))) (λa b c d e k=>dk.Z9 N a b c d e k (λa=>K (.exit 0) (oA a))) (λF a b c d e=>Zs N a b c d e _) (by kernel_rfl)
def Zu N a b c d e (K:KT J):=vL (rR a b c d e) (Zt N (jK wQ K) N a b c d e) (by kernel_rfl)
def Zv N a b c d e (K:KT J):=vB 0 wQ K (dk.Z7 N a b c d e (λa=>K .nrm (oA a))) (Zu N a b c d e _) (by kernel_rfl)
def Zw N a b c d (K:KT J):=vQ (λk=>dk.Z6 N a b c d k) (Zr N a b c d _) (bZ λa e b c d=>Zv N a e b c d K)
def Zx N a (K:KT J):oB N 15 (oA a) Zi K =
 dk.Z10 N a (λb=>K .ret (Zm b)):=by kernel_rfl
def Zy N a b c d (K:KT J):=vQ (λk=>dk.Z5 N a b c d k) (Zw N a b c d _) (funext λa=>Zx N a K)
def Zz N a b c (K:KT J):=vQ (λk=>dk.Z3 N a b c k) (Zq N a b c _) (dQ λd a b c=>Zy N d a b c K)
def ZA N a (K:KT J):=vQ (λk=>dk.Z1 N a k) (Zp N a _) (dP λb c d=>Zz N b c d K)
def ZB(h:dk.Spec):aB Try.prog 86 wP :=
 bI Try.func86 bg Zh (λN X K=>ZA N X.1 K) (by kernel_rfl) λX hb hp=>by obtain⟨a,_⟩:=X;obtain⟨N,h⟩:=h a hb.1 hp;exact⟨N,Eq.trans (by kernel_rfl) (h N (Nat.le_refl N))⟩
def ZC:aB Try.prog 86 wP:=ZB dk.ok
def DT:bv:=⟨[⟨.sl 24 (.sl 3 (.int .i64)),false,false⟩,⟨.int .i64,false,false⟩],[⟨.int .i64,false,false⟩]⟩
def wR:aW:=⟨DT,(some λX=>cM.P X.1 X.2.1),λX=>((),((cM.g X.1 X.2.1),()))⟩
def DU:Gm:=ba
def ZD:aq Try.prog DU:=aq.nil
def ZE:aa:=⟨[],[],[],[],[]⟩
def ZF(a:LL)(b:Int):St:=bz DT.ps (a,(b,()))
def DV(a:LL)(b:Int):St:=ah [(0,.c (.sn 24 (.sl 3 tI) a none)),(1,xi b)] [] []
def ZG:aa:=⟨[0,1],[],[],[],[]⟩
def DW(a:LL)(b:Int)(d:Bool):St:=ah [(0,.c (.sn 24 (.sl 3 tI) a none)),(1,xi b),(5,xB d)] [] []
def ZH:aa:=⟨[0,1,5],[],[],[],[]⟩
def DX(a:LL)(b:Int)(d e:Bool):St:=ah [(0,.c (.sn 24 (.sl 3 tI) a none)),(1,xi b),(5,xB d),(6,xB e)] [] []
def ZI:aa:=⟨[0,1,5,6],[],[],[],[]⟩
def rS(a:LL)(b:Int)(d e:Bool)(f:Int):St:=ah [(0,.c (.sn 24 (.sl 3 tI) a none)),(1,xi b),(5,xB d),(6,xB e),(7,xi f)] [] []
def DY:aa:=⟨[0,1,5,6,7],[],[],[],[]⟩
def oC(a b:Bool):St:=ah [(5,xB a),(6,xB b)] [] []
def wS:aa:=⟨[5,6],[],[],[],[]⟩
def ZJ(a:Int):St:=ah [(4,xi a)] [] []
def ZK:aa:=⟨[4],[],[],[],[]⟩
def ZL:Nat->Option aa:=ay [(0,wS),(1000000,ZK)]
abbrev ml{J:Type}(N n:Nat)(V:St)(l:aa)(K:KT J):Option J:=ak DU be ZL N (a6 99 (bf Try.f84) n) .n V (av (some l) K)
def ZM N a b (K:KT J):ml N 2 (ZF a b) ZG K =
 cM.Z1 N a b (λa b=>K .nrm (DV a b)):=by kernel_rfl
def ZN N a b (K:KT J):ml N 5 (DV a b) ZH K =
 cM.Z3 N a b (λa b c=>K .nrm (DW a b c)):=by kernel_rfl
def ZO N a b c (K:KT J):ml N 11 (DW a b c) ZI K =
 cM.Z5 N a b c (λa b c d=>K .nrm (DX a b c d)):=by kernel_rfl
def ZP N a b c d (K:KT J):ml N 39 (DX a b c d) DY K =
 cM.Z8 N a b c d (λa b c d e=>K .nrm (rS a b c d e)):=by kernel_rfl
def ZQ N c d a b e (K:KT J):ml N 151 (rS c d a b e) DY K =
 cM.Z11 N c d a b e (λc d a b e=>K .nrm (rS c d a b e)) (λa b=>K (.exit 0) (oC a b)):=by kernel_rfl
def ZR N (K:KT J):=ji K (cM.Z10L N (λa b=>K (.exit 0) (oC a b))) (λc d a b e k=>cM.Z11 N c d a b e k (λa b=>K (.exit 0) (oC a b))) (λF c d a b e=>ZQ N c d a b e _) (by kernel_rfl)
def ZS N a b c d e (K:KT J):=vL (rS a b c d e) (ZR N (jK wS K) N a b c d e) (by kernel_rfl)
def ZT N c d a b e (K:KT J):=vB 0 wS K (cM.Z9 N c d a b e (λa b=>K .nrm (oC a b))) (ZS N c d a b e _) (by kernel_rfl)
def ZU N a b c d (K:KT J):=vQ (λk=>cM.Z8 N a b c d k) (ZP N a b c d _) (bZ λa b c d e=>ZT N a b c d e K)
def ZV N a b (K:KT J):ml N 31 (oC a b) ZE K =
 cM.Z12 N a b (λc=>K .ret (ZJ c)):=by kernel_rfl
def ZW N c d a b (K:KT J):=vQ (λk=>cM.Z7 N c d a b k) (ZU N c d a b _) (eH λa b=>ZV N a b K)
def ZX N a b c (K:KT J):=vQ (λk=>cM.Z5 N a b c k) (ZO N a b c _) (dQ λa b c d=>ZW N a b c d K)
def ZY N a b (K:KT J):=vQ (λk=>cM.Z3 N a b k) (ZN N a b _) (dP λa b c=>ZX N a b c K)
def ZZ N a b (K:KT J):=vQ (λk=>cM.Z1 N a b k) (ZM N a b _) (eH λa b=>ZY N a b K)
def f84ok(h:cM.Spec):aB Try.prog 84 wR :=
 bI Try.func84 bg ZD (λN X K=>ZZ N X.1 X.2.1 K) (by kernel_rfl) λX hb hp=>by obtain⟨a,b,_⟩:=X;obtain⟨N,h⟩:=h a b hb.1 hp;exact⟨N,Eq.trans (by kernel_rfl) (h N (Nat.le_refl N))⟩
def e84ok:aB Try.prog 84 wR:=f84ok cM.ok
def wT:Rf:=none
def wU:List PT:=[⟨.pair (.int .i64) (.pair (.int .i64) (.sl 3 (.int .i64))),true,false⟩,⟨.sl 3 (.int .i64),false,true⟩,⟨.sl 24 (.sl 3 (.int .i64)),false,true⟩]
def DZ:List PT:=[⟨.sl 24 (.sl 3 (.int .i64)),false,false⟩,⟨.bool,false,false⟩]
def D0(m:Nat):fe:=⟨wT,wU,DZ,(some (eJ (λX=>cq.mu X.2.1 X.2.2.1 X.2.2.2.1) (λX=>cq.P X.2.1 X.2.2.1 X.2.2.2.1) m)),λX=>((),((cq.g X.2.1 X.2.2.1 X.2.2.2.1).1,((cq.g X.2.1 X.2.2.1 X.2.2.2.1).2,())))⟩
def wV:fe:=⟨wT,wU,DZ,(some λX=>cq.P X.2.1 X.2.2.1 X.2.2.2.1),λX=>((),((cq.g X.2.1 X.2.2.1 X.2.2.2.1).1,((cq.g X.2.1 X.2.2.1 X.2.2.2.1).2,())))⟩
def D1(m:Nat):Gm:=aR (aR (aR (aR (aR (addM ba 69 (D0 m)) 77 q8) 78 nY) 84 wR) 86 wP) 98 ob
def f69GOk(m:Nat)(hself:dL Try.prog 69 (D0 m)):aq Try.prog (D1 m):=((((((aq.nil).addM hself (by kernel_rfl)).add B2 (by kernel_rfl)).add vN (by kernel_rfl)).add e84ok (by kernel_rfl)).add ZC (by kernel_rfl)).add v9 (by kernel_rfl)
def f69lE:aa:=⟨[],[],[],[],[]⟩
def f69s0(a:MT)(b:LI)(c:LL):St:=dO wT wU ((),(a,(b,(c,()))))
def D2(a:LI)(b:LL)(c d:Int)(e:LI):St:=ah [(1,xo 1000064),(2,xo 1000128),(3,xb 3)] [(3,(26,[yi c,yi d,.sn 3 tI e none]))] [(1000064,(⟨3,.int .i64,a,true,false⟩:ac)),(1000128,(⟨24,.sl 3 tI,b,true,false⟩:ac))]
def f69l1:aa:=⟨[1,2,3],[3],[],[],[(⟨false,1,0⟩,1000064),(⟨false,2,0⟩,1000128)]⟩
def D3(a:LI)(b c:LL)(d e:Int)(f:LI):St:=ah [(1,xo 1000064),(2,xo 1000128),(3,xb 3),(8,xo 1000512)] [(3,(26,[yi d,yi e,.sn 3 tI f none]))] [(1000064,(⟨3,.int .i64,a,true,false⟩:ac)),(1000128,(⟨24,.sl 3 tI,b,true,false⟩:ac)),(1000512,(⟨24,.sl 3 tI,c,true,false⟩:ac))]
def f69l2:aa:=⟨[1,2,3,8],[3],[],[],[(⟨false,1,0⟩,1000064),(⟨false,2,0⟩,1000128),(⟨false,8,0⟩,1000512)]⟩
def D4(a:LI)(b c:LL)(d:Bool)(e f:Int)(g:LI):St:=ah [(1,xo 1000064),(2,xo 1000128),(3,xb 3),(8,xo 1000512),(9,xB d)] [(3,(26,[yi e,yi f,.sn 3 tI g none]))] [(1000064,(⟨3,.int .i64,a,true,false⟩:ac)),(1000128,(⟨24,.sl 3 tI,b,true,false⟩:ac)),(1000512,(⟨24,.sl 3 tI,c,true,false⟩:ac))]
def f69l3:aa:=⟨[1,2,3,8,9],[3],[],[],[(⟨false,1,0⟩,1000064),(⟨false,2,0⟩,1000128),(⟨false,8,0⟩,1000512)]⟩
def rT(a:LI)(b c:LL)(d:Bool)(e f g:Int)(h:LI):St:=ah [(1,xo 1000064),(2,xo 1000128),(3,xb 3),(8,xo 1000512),(9,xB d),(10,xi e)] [(3,(26,[yi f,yi g,.sn 3 tI h none]))] [(1000064,(⟨3,.int .i64,a,true,false⟩:ac)),(1000128,(⟨24,.sl 3 tI,b,true,false⟩:ac)),(1000512,(⟨24,.sl 3 tI,c,true,false⟩:ac))]
def D5:aa:=⟨[1,2,3,8,9,10],[3],[],[],[(⟨false,1,0⟩,1000064),(⟨false,2,0⟩,1000128),(⟨false,8,0⟩,1000512)]⟩
def oD(a:LI)(b:LL)(c:Bool):St:=ah [(1,xo 1000064),(2,xo 1000128),(9,xB c)] [] [(1000064,(⟨3,.int .i64,a,true,false⟩:ac)),(1000128,(⟨24,.sl 3 tI,b,true,false⟩:ac))]
def wW:aa:=⟨[1,2,9],[],[],[],[(⟨false,1,0⟩,1000064),(⟨false,2,0⟩,1000128)]⟩
def mm(a:LL)(b:Bool):St:=ah [(6,xo 1000384),(7,xB b)] [] [(1000384,(⟨24,.sl 3 tI,a,true,false⟩:ac))]
def f69l6:aa:=⟨[6,7],[],[⟨⟨false,6,0⟩,30000000,24,.sl 3 (.int .i64),true⟩],[],[(⟨false,6,0⟩,1000384)]⟩
def f69B:Nat->Option aa:=ay [(0,wW),(1000000,f69l6)]
abbrev mo{J:Type}(N m n:Nat)(V:St)(l:aa)(K:KT J):Option J:=ak (D1 m) be f69B N (a6 99 (bf Try.f69) n) .n V (av (some l) K)
def f69t1 N m c a b (K:KT J):mo N m 2 (f69s0 c a b) f69l1 K =
 cq.Z1 N m c a b (λa b d e f=>K .nrm (D2 a b d e f)):=by kernel_rfl
def f69t3 N m a b c d e (K:KT J):mo N m 5 (D2 a b c d e) f69l2 K =
 cq.Z3 N m a b c d e (λa b f c d e=>K .nrm (D3 a b f c d e)):=by kernel_rfl
def f69t5 N m a b c d e f (K:KT J):mo N m 11 (D3 a b c d e f) f69l3 K =
 cq.Z5 N m a b c d e f (λa b c g d e f=>K .nrm (D4 a b c g d e f)):=by kernel_rfl
def f69t8 N m a b c d e f g (K:KT J):mo N m 39 (D4 a b c d e f g) D5 K =
 cq.Z8 N m a b c d e f g (λa b c d h e f g=>K .nrm (rT a b c d h e f g)):=by kernel_rfl
def f69t11 N m a b d c e f g h (K:KT J):mo N m 151 (rT a b d c e f g h) D5 K =
 cq.Z11 N m a b d c e f g h (λa b d c e f g h=>K .nrm (rT a b d c e f g h)) (λa b c=>K (.exit 0) (oD a b c)) (λi j=>K .ret (mm i j)):=by kernel_rfl
def f69t10L N m (K:KT J):=lL K (cq.Z10L N m (λa b c=>K (.exit 0) (oD a b c)) (λd e=>K .ret (mm d e))) (λa b f c g h i j k=>cq.Z11 N m a b f c g h i j k (λa b c=>K (.exit 0) (oD a b c)) (λd e=>K .ret (mm d e))) (λF a b f c g h i j=>f69t11 N m a b f c g h i j _) (by kernel_rfl)
def f69t10 N m a b c d e f g h (K:KT J):=vL (rT a b c d e f g h) (f69t10L N m (jK wW K) N a b c d e f g h) (by kernel_rfl)
def f69t9 N m a b d c e f g h (K:KT J):=vB 0 wW K (cq.Z9 N m a b d c e f g h (λa b c=>K .nrm (oD a b c)) (λi j=>K .ret (mm i j))) (f69t10 N m a b d c e f g h _) (by kernel_rfl)
def f69t7 N m a b c d e f g (K:KT J):=vQ (λk=>cq.Z8 N m a b c d e f g k) (f69t8 N m a b c d e f g _) (dA λa b c d h e f g=>f69t9 N m a b c d h e f g K)
def f69t12 N m a b c (K:KT J):mo N m 31 (oD a b c) f69lE K =
 cq.Z12 N m a b c (λd e=>K .ret (mm d e)):=by kernel_rfl
def f69t6 N m a b d c e f g (K:KT J):=vQ (λk=>cq.Z7 N m a b d c e f g k (λh i=>K .ret (mm h i))) (f69t7 N m a b d c e f g _) (dP λa b c=>f69t12 N m a b c K)
def f69t4 N m a b c d e f (K:KT J):=vQ (λk=>cq.Z5 N m a b c d e f k) (f69t5 N m a b c d e f _) (eI λa b c g d e f=>f69t6 N m a b c g d e f K)
def f69t2 N m a b c d e (K:KT J):=vQ (λk=>cq.Z3 N m a b c d e k) (f69t3 N m a b c d e _) (dz λa b f c d e=>f69t4 N m a b f c d e K)
def f69t0 N m c a b (K:KT J):=vQ (λk=>cq.Z1 N m c a b k) (f69t1 N m c a b _) (bZ λa b d e f=>f69t2 N m a b d e f K)
def f69ok(h:cq.Spec):dL Try.prog 69 wV :=
 dL.rec (μ:=λX=>cq.mu X.2.1 X.2.2.1 X.2.2.2.1) (λm hself=>ze Try.func69 bg (f69GOk m hself) (λN X K=>f69t0 N m X.2.1 X.2.2.1 X.2.2.2.1 K) (by kernel_rfl) λX hb1 hb2 hp=>by obtain⟨u,a,b,c,_⟩:=X;obtain⟨N,h⟩:=h m a b c hb2.1 hb2.2.1 hb2.2.2.1 hp;exact⟨N,Eq.trans (by kernel_rfl) (h N (Nat.le_refl N))⟩)
def e69ok:dL Try.prog 69 wV:=f69ok cq.ok
def D6:bv:=⟨[⟨.pair (.int .i64) (.pair (.int .i64) (.sl 3 (.int .i64))),true,false⟩],[⟨.sl 24 (.sl 3 (.int .i64)),false,false⟩,⟨.bool,false,false⟩]⟩
def wX:aW:=⟨D6,none,λX=>((),((fT.g X.1).1,((fT.g X.1).2,())))⟩
def D7:Gm:=aR (addM (aR ba 68 wM) 69 wV) 70 wN
def f25GOk:aq Try.prog D7:=(((aq.nil).add YT (by kernel_rfl)).addM e69ok (by kernel_rfl)).add Zg (by kernel_rfl)
def f25lE:aa:=⟨[],[],[],[],[]⟩
def f25s0(a:MT):St:=bz D6.ps (a,())
def f25s1(a:LL)(b:Bool):St:=ah [(2,xo 1000128),(3,xB b)] [] [(1000128,(⟨24,.sl 3 tI,a,true,false⟩:ac))]
def f25l1:aa:=⟨[2,3],[],[⟨⟨false,2,0⟩,30000000,24,.sl 3 (.int .i64),true⟩],[],[(⟨false,2,0⟩,1000128)]⟩
def f25B:Nat->Option aa:=ay [(1000000,f25l1)]
abbrev f25j{J:Type}(N n:Nat)(V:St)(l:aa)(K:KT J):Option J:=ak D7 be f25B N (a6 99 (bf Try.f25) n) .n V (av (some l) K)
def f25t0 N a (K:KT J):f25j N 1 (f25s0 a) f25lE K =
 fT.Z0 N a (λb c=>K .ret (f25s1 b c)):=by kernel_rfl
def f25ok(h:fT.Spec):aB Try.prog 25 wX :=
 bI Try.func25 bg f25GOk (λN X K=>f25t0 N X.1 K) (by kernel_rfl) λX hb hp=>by obtain⟨a,_⟩:=X;obtain⟨N,h⟩:=h a hb.1;exact⟨N,Eq.trans (by kernel_rfl) (h N (Nat.le_refl N))⟩
def e25ok:aB Try.prog 25 wX:=f25ok fT.ok
def D8:bv:=⟨[⟨.sl 3 (.int .i64),false,false⟩,⟨.sl 3 (.int .i64),false,false⟩],[⟨.bool,false,false⟩]⟩
def wY:aW:=⟨D8,none,λX=>((),((ee.g X.1 X.2.1),()))⟩
def D9:Gm:=ba
def f26GOk:aq Try.prog D9:=aq.nil
def f26lE:aa:=⟨[],[],[],[],[]⟩
def f26s0(a b:LI):St:=bz D8.ps (a,(b,()))
def kT(a b:LI):St:=ah [(0,.c (.sn 3 tI a none)),(1,.c (.sn 3 tI b none))] [] []
def rU:aa:=⟨[0,1],[],[],[],[]⟩
def rV(a b:LI)(d:Int):St:=ah [(0,.c (.sn 3 tI a none)),(1,.c (.sn 3 tI b none)),(5,xi d)] [] []
def Ea:aa:=⟨[0,1,5],[],[],[],[]⟩
def mq(a:Bool):St:=ah [(4,xB a)] [] []
def f26l3:aa:=⟨[4],[],[],[],[]⟩
def f26B:Nat->Option aa:=ay [(0,rU),(1000000,f26l3)]
abbrev rW{J:Type}(N n:Nat)(V:St)(l:aa)(K:KT J):Option J:=ak D9 be f26B N (a6 99 (bf Try.f26) n) .n V (av (some l) K)
def f26t1 N a b (K:KT J):rW N 2 (f26s0 a b) rU K =
 ee.Z1 N a b (λa b=>K .nrm (kT a b)):=by kernel_rfl
def f26t4 N a b (K:KT J):rW N 9 (kT a b) Ea K =
 ee.Z4 N a b (λa b c=>K .nrm (rV a b c)):=by kernel_rfl
def f26t7 N a b c (K:KT J):rW N 37 (rV a b c) Ea K =
 ee.Z7 N a b c (λa b c=>K .nrm (rV a b c)) (λa b=>K (.exit 0) (kT a b)) (λd=>K .ret (mq d)):=by kernel_rfl
def f26t6L N (K:KT J):=jh K (ee.Z6L N (λa b=>K (.exit 0) (kT a b)) (λc=>K .ret (mq c))) (λa b d k=>ee.Z7 N a b d k (λa b=>K (.exit 0) (kT a b)) (λc=>K .ret (mq c))) (λF a b d=>f26t7 N a b d _) (by kernel_rfl)
def f26t6 N a b c (K:KT J):=vL (rV a b c) (f26t6L N (jK rU K) N a b c) (by kernel_rfl)
def f26t5 N a b c (K:KT J):=vB 0 rU K (ee.Z5 N a b c (λa b=>K .nrm (kT a b)) (λd=>K .ret (mq d))) (f26t6 N a b c _) (by kernel_rfl)
def f26t3 N a b (K:KT J):=vQ (λk=>ee.Z4 N a b k) (f26t4 N a b _) (dP λa b c=>f26t5 N a b c K)
def f26t8 N a b (K:KT J):rW N 7 (kT a b) f26lE K =
 ee.Z8 N a b (λc=>K .ret (mq c)):=by kernel_rfl
def f26t2 N a b (K:KT J):=vQ (λk=>ee.Z3 N a b k (λc=>K .ret (mq c))) (f26t3 N a b _) (eH λa b=>f26t8 N a b K)
def f26t0 N a b (K:KT J):=vQ (λk=>ee.Z1 N a b k) (f26t1 N a b _) (eH λa b=>f26t2 N a b K)
def f26ok(h:ee.Spec):aB Try.prog 26 wY :=
 bI Try.func26 bg f26GOk (λN X K=>f26t0 N X.1 X.2.1 K) (by kernel_rfl) λX hb hp=>by obtain⟨a,b,_⟩:=X;obtain⟨N,h⟩:=h a b hb.1 hb.2.1;exact⟨N,Eq.trans (by kernel_rfl) (h N (Nat.le_refl N))⟩
def e26ok:aB Try.prog 26 wY:=f26ok ee.ok
def Eb:bv:=⟨[⟨.pair (.int .i64) (.pair (.int .i64) (.sl 3 (.int .i64))),true,false⟩,⟨.sl 3 (.int .i64),false,false⟩],[⟨.sl 26 (.pair (.int .i64) (.pair (.int .i64) (.sl 3 (.int .i64)))),false,false⟩,⟨.bool,false,false⟩]⟩
def rX:aW:=⟨Eb,none,λX=>((),((bj.g X.1 X.2.1).1,((bj.g X.1 X.2.1).2,())))⟩
def Ec:Gm:=aR (aR ba 30 rI) 40 rN
def f57GOk:aq Try.prog Ec:=((aq.nil).add Dg (by kernel_rfl)).add Dw (by kernel_rfl)
def f57lE:aa:=⟨[],[],[],[],[]⟩
def f57s0(a:MT)(b:LI):St:=bz Eb.ps (a,(b,()))
def Ed(a:LI)(b d:Int)(e:LI):St:=ah [(1,.c (.sn 3 tI a none)),(2,xb 2)] [(2,(26,[yi b,yi d,.sn 3 tI e none]))] []
def f57l1:aa:=⟨[1,2],[2],[],[],[]⟩
def Ee(a b:LI)(d:Bool)(e f:Int):St:=ah [(1,.c (.sn 3 tI b none)),(6,xb 6),(7,xB d)] [(6,(26,[yi e,yi f,.own 20000386]))] [(20000386,(⟨3,.int .i64,a,true,false⟩:ac))]
def f57l2:aa:=⟨[1,6,7],[6],[],[],[(⟨true,6,2⟩,20000386)]⟩
def Ef(a b:LI)(d e:Int):St:=ah [(1,.c (.sn 3 tI b none)),(6,xb 6)] [(6,(26,[yi d,yi e,.own 20000386]))] [(20000386,(⟨3,.int .i64,a,true,false⟩:ac))]
def f57l3:aa:=⟨[1,6],[6],[],[],[(⟨true,6,2⟩,20000386)]⟩
def Eg(a:LM)(b:LI)(d e:Int)(f:LI):St:=ah [(1,.c (.sn 3 tI b none)),(6,xb 6),(8,xo 1000512)] [(6,(26,[yi d,yi e,.sn 3 tI f (some 1000512)]))] [(1000512,(⟨26,tM 3,a,true,false⟩:ac))]
def f57l4:aa:=⟨[1,6,8],[6],[],[],[(⟨false,8,0⟩,1000512)]⟩
def rY(a:LM)(b:LI)(d e f g:Int)(h:LI):St:=ah [(6,xb 6),(8,xo 1000512),(25,.c (.sn 3 tI b none)),(26,xi d),(27,xi e)] [(6,(26,[yi f,yi g,.sn 3 tI h (some 1000512)]))] [(1000512,(⟨26,tM 3,a,true,false⟩:ac))]
def Eh:aa:=⟨[6,8,25,26,27],[6],[],[],[(⟨false,8,0⟩,1000512)]⟩
def oE(a:LM):St:=ah [(8,xo 1000512)] [] [(1000512,(⟨26,tM 3,a,true,false⟩:ac))]
def wZ:aa:=⟨[8],[],[],[],[(⟨false,8,0⟩,1000512)]⟩
def jG(a:LM)(b:Bool):St:=ah [(4,xo 1000256),(5,xB b)] [] [(1000256,(⟨26,tM 3,a,true,false⟩:ac))]
def f57l7:aa:=⟨[4,5],[],[⟨⟨false,4,0⟩,30000000,26,.pair (.int .i64) (.pair (.int .i64) (.sl 3 (.int .i64))),true⟩],[],[(⟨false,4,0⟩,1000256)]⟩
def f57B:Nat->Option aa:=ay [(0,wZ),(1000000,f57l7)]
abbrev kU{J:Type}(N n:Nat)(V:St)(l:aa)(K:KT J):Option J:=ak Ec be f57B N (a6 99 (bf Try.f57) n) .n V (av (some l) K)
def f57t1 N b a (K:KT J):kU N 2 (f57s0 b a) f57l1 K =
 bj.Z1 N b a (λa c d e=>K .nrm (Ed a c d e)):=by kernel_rfl
def f57t3 N a b c d (K:KT J):kU N 5 (Ed a b c d) f57l2 K =
 bj.Z3 N a b c d (λe a f g h=>K .nrm (Ee e a f g h)):=by kernel_rfl
def f57t5 N a b e c d (K:KT J):kU N 11 (Ee a b e c d) f57l3 K =
 bj.Z5 N a b e c d (λa b c d=>K .nrm (Ef a b c d)) (λf g=>K .ret (jG f g)):=by kernel_rfl
def f57t7 N a b c d (K:KT J):kU N 23 (Ef a b c d) f57l4 K =
 bj.Z7 N a b c d (λe b c d a=>K .nrm (Eg e b c d a)):=by kernel_rfl
def f57t10 N a e b c d (K:KT J):kU N 79 (Eg a e b c d) Eh K =
 bj.Z10 N a e b c d (λa f g h b c d=>K .nrm (rY a f g h b c d)):=by kernel_rfl
def f57t13 N a b c d e f g (K:KT J):kU N 303 (rY a b c d e f g) Eh K =
 bj.Z13 N a b c d e f g (λa b c d e f g=>K .nrm (rY a b c d e f g)) (λa=>K (.exit 0) (oE a)) (λh i=>K .ret (jG h i)):=by kernel_rfl
def f57t12L N (K:KT J):=kC K (bj.Z12L N (λa=>K (.exit 0) (oE a)) (λb c=>K .ret (jG b c))) (λa d e f g h i k=>bj.Z13 N a d e f g h i k (λa=>K (.exit 0) (oE a)) (λb c=>K .ret (jG b c))) (λF a d e f g h i=>f57t13 N a d e f g h i _) (by kernel_rfl)
def f57t12 N a b c d e f g (K:KT J):=vL (rY a b c d e f g) (f57t12L N (jK wZ K) N a b c d e f g) (by kernel_rfl)
def f57t11 N a b c d e f g (K:KT J):=vB 0 wZ K (bj.Z11 N a b c d e f g (λa=>K .nrm (oE a)) (λh i=>K .ret (jG h i))) (f57t12 N a b c d e f g _) (by kernel_rfl)
def f57t9 N a e b c d (K:KT J):=vQ (λk=>bj.Z10 N a e b c d k) (f57t10 N a e b c d _) (eI λa f g h b c d=>f57t11 N a f g h b c d K)
def f57t14 N a (K:KT J):kU N 63 (oE a) f57lE K =
 bj.Z14 N a (λb c=>K .ret (jG b c)):=by kernel_rfl
def f57t8 N a b c d e (K:KT J):=vQ (λk=>bj.Z9 N a b c d e k (λf g=>K .ret (jG f g))) (f57t9 N a b c d e _) (funext λa=>f57t14 N a K)
def f57t6 N a b c d (K:KT J):=vQ (λk=>bj.Z7 N a b c d k) (f57t7 N a b c d _) (bZ λe b c d a=>f57t8 N e b c d a K)
def f57t4 N a b e c d (K:KT J):=vQ (λk=>bj.Z5 N a b e c d k (λf g=>K .ret (jG f g))) (f57t5 N a b e c d _) (dQ λa b c d=>f57t6 N a b c d K)
def f57t2 N a b c d (K:KT J):=vQ (λk=>bj.Z3 N a b c d k) (f57t3 N a b c d _) (bZ λe a f g h=>f57t4 N e a f g h K)
def f57t0 N b a (K:KT J):=vQ (λk=>bj.Z1 N b a k) (f57t1 N b a _) (dQ λa c d e=>f57t2 N a c d e K)
def f57ok(h:bj.Spec):aB Try.prog 57 rX :=
 bI Try.func57 bg f57GOk (λN X K=>f57t0 N X.1 X.2.1 K) (by kernel_rfl) λX hb hp=>by obtain⟨a,b,_⟩:=X;obtain⟨N,h⟩:=h a b hb.1 hb.2.1;exact⟨N,Eq.trans (by kernel_rfl) (h N (Nat.le_refl N))⟩
def Ei:aB Try.prog 57 rX:=f57ok bj.ok
def Ej:bv:=⟨[⟨.pair (.int .i64) (.pair (.int .i64) (.sl 3 (.int .i64))),true,false⟩,⟨.sl 3 (.int .i64),false,false⟩,⟨.int .i64,false,false⟩],[⟨.int .i64,false,false⟩]⟩
def w6:aW:=⟨Ej,none,λX=>((),((hZ.g X.1 X.2.1 X.2.2.1),()))⟩
def Ek:Gm:=aR (aR (aR ba 57 rX) 65 ma) 66 rL
def f21GOk:aq Try.prog Ek:=(((aq.nil).add Ei (by kernel_rfl)).add rj (by kernel_rfl)).add Dm (by kernel_rfl)
def f21lE:aa:=⟨[],[],[],[],[]⟩
def f21s0(a:MT)(b:LI)(c:Int):St:=bz Ej.ps (a,(b,(c,())))
def f21s1(a:Int):St:=ah [(6,xi a)] [] []
def f21l1:aa:=⟨[6],[],[],[],[]⟩
def f21B:Nat->Option aa:=ay [(1000000,f21l1)]
abbrev f21j{J:Type}(N n:Nat)(V:St)(l:aa)(K:KT J):Option J:=ak Ek be f21B N (a6 99 (bf Try.f21) n) .n V (av (some l) K)
def f21t0 N a b c (K:KT J):f21j N 1 (f21s0 a b c) f21lE K =
 hZ.Z0 N a b c (λd=>K .ret (f21s1 d)):=by kernel_rfl
def f21ok(h:hZ.Spec):aB Try.prog 21 w6 :=
 bI Try.func21 bg f21GOk (λN X K=>f21t0 N X.1 X.2.1 X.2.2.1 K) (by kernel_rfl) λX hb hp=>by obtain⟨a,b,c,_⟩:=X;obtain⟨N,h⟩:=h a b c hb.1 hb.2.1;exact⟨N,Eq.trans (by kernel_rfl) (h N (Nat.le_refl N))⟩
def e21ok:aB Try.prog 21 w6:=f21ok hZ.ok
def El:bv:=⟨[⟨.pair (.int .i64) (.pair (.int .i64) (.sl 3 (.int .i64))),true,false⟩],[⟨.sl 24 (.sl 3 (.int .i64)),false,false⟩]⟩
def w7:aW:=⟨El,(some λX=>b7.P X.1),λX=>((),((b7.g X.1),()))⟩
def Em:Gm:=aR ba 60 mc
def f58GOk:aq Try.prog Em:=(aq.nil).add ru (by kernel_rfl)
def f58lE:aa:=⟨[],[],[],[],[]⟩
def f58s0(a:MT):St:=bz El.ps (a,())
def En(a b:Int)(c:LI):St:=ah [(1,xb 1)] [(1,(26,[yi a,yi b,.sn 3 tI c none]))] []
def f58l1:aa:=⟨[1],[1],[],[],[]⟩
def Eo(a b:Int)(d:LI):St:=ah [(1,xb 1),(3,.c (.nil))] [(1,(26,[yi a,yi b,.sn 3 tI d none]))] []
def f58l2:aa:=⟨[1,3],[1],[],[],[]⟩
def Ep(a b d:Int)(e:LI):St:=ah [(1,xb 1),(3,.c (.nil)),(4,xi a)] [(1,(26,[yi b,yi d,.sn 3 tI e none]))] []
def f58l3:aa:=⟨[1,3,4],[1],[],[],[]⟩
def oF(a:LL)(b c d:Int)(e:LI):St:=ah [(1,xb 1),(3,xo 1000192),(4,xi b)] [(1,(26,[yi c,yi d,.sn 3 tI e none]))] [(1000192,(⟨24,.sl 3 tI,a,true,false⟩:ac))]
def rZ:aa:=⟨[1,3,4],[1],[],[],[(⟨false,3,0⟩,1000192)]⟩
def Er(a:LL)(b c d:Int)(e:LI):St:=ah [(1,xb 1),(3,xo 1000192),(4,xi b)] [(1,(26,[yi c,yi d,.sn 3 tI e none]))] [(1000192,(⟨24,.sl 3 tI,a,true,false⟩:ac))]
def f58l9:aa:=⟨[1,3,4],[1],[⟨⟨false,3,0⟩,30000000,24,.sl 3 (.int .i64),true⟩],[],[(⟨false,3,0⟩,1000192)]⟩
def Es(a:LL)(b d e:Int)(f:LI):St:=ah [(1,xb 1),(3,xo 1000192),(4,xi b),(5,.c (.nil))] [(1,(26,[yi d,yi e,.sn 3 tI f none]))] [(1000192,(⟨24,.sl 3 tI,a,true,false⟩:ac))]
def f58l10:aa:=⟨[1,3,4,5],[1],[],[],[(⟨false,3,0⟩,1000192)]⟩
def Et(a:LL)(b d e f:Int)(g:LI):St:=ah [(1,xb 1),(3,xo 1000192),(4,xi b),(5,.c (.nil)),(6,xi d)] [(1,(26,[yi e,yi f,.sn 3 tI g none]))] [(1000192,(⟨24,.sl 3 tI,a,true,false⟩:ac))]
def f58l11:aa:=⟨[1,3,4,5,6],[1],[],[],[(⟨false,3,0⟩,1000192)]⟩
def Eu(a:LL)(b:LI)(c d e f:Int)(g:LI):St:=ah [(1,xb 1),(3,xo 1000192),(4,xi c),(5,xo 1000320),(6,xi d)] [(1,(26,[yi e,yi f,.sn 3 tI g none]))] [(1000192,(⟨24,.sl 3 tI,a,true,false⟩:ac)),(1000320,(⟨3,.int .i64,b,true,false⟩:ac))]
def f58l12:aa:=⟨[1,3,4,5,6],[1],[⟨⟨false,5,0⟩,30000000,3,.int .i64,true⟩],[],[(⟨false,3,0⟩,1000192),(⟨false,5,0⟩,1000320)]⟩
def oG(a:LL)(b:LI)(c d e:Int)(f:LI):St:=ah [(1,xb 1),(3,xo 1000192),(4,xi c),(5,xo 1000320)] [(1,(26,[yi d,yi e,.sn 3 tI f none]))] [(1000192,(⟨24,.sl 3 tI,a,true,false⟩:ac)),(1000320,(⟨3,.int .i64,b,true,false⟩:ac))]
def w9:aa:=⟨[1,3,4,5],[1],[],[],[(⟨false,3,0⟩,1000192),(⟨false,5,0⟩,1000320)]⟩
def mr(a:LL):St:=ah [(3,xo 1000192)] [] [(1000192,(⟨24,.sl 3 tI,a,true,false⟩:ac))]
def xa:aa:=⟨[3],[],[],[],[(⟨false,3,0⟩,1000192)]⟩
def f58s15(a:LL):St:=ah [(2,xo 1000128)] [] [(1000128,(⟨24,.sl 3 tI,a,true,false⟩:ac))]
def f58l15:aa:=⟨[2],[],[],[],[(⟨false,2,0⟩,1000128)]⟩
def f58B:Nat->Option aa:=ay [(2,w9),(1,rZ),(0,xa),(1000000,f58l15)]
abbrev hY{J:Type}(N n:Nat)(V:St)(l:aa)(K:KT J):Option J:=ak Em be f58B N (a6 99 (bf Try.f58) n) .n V (av (some l) K)
def f58t1 N a (K:KT J):hY N 2 (f58s0 a) f58l1 K =
 b7.Z1 N a (λb c d=>K .nrm (En b c d)):=by kernel_rfl
def f58t3 N a b c (K:KT J):hY N 5 (En a b c) f58l2 K =
 b7.Z3 N a b c (λa b c=>K .nrm (Eo a b c)):=by kernel_rfl
def f58t6 N a b c (K:KT J):hY N 19 (Eo a b c) f58l3 K =
 b7.Z6 N a b c (λd a b c=>K .nrm (Ep d a b c)):=by kernel_rfl
def f58t10 N a b c d e (K:KT J):hY N 139 (Er a b c d e) rZ K =
 b7.Z10 N a b c d e (λa b c d e=>K .nrm (oF a b c d e)) (λa=>K (.exit 0) (mr a)):=by kernel_rfl
def f58t14 N a b c d e (K:KT J):hY N 1099 (oF a b c d e) f58l10 K =
 b7.Z14 N a b c d e (λa b c d e=>K .nrm (Es a b c d e)):=by kernel_rfl
def f58t17 N a b c d e (K:KT J):hY N 4683 (Es a b c d e) f58l11 K =
 b7.Z17 N a b c d e (λa b f c d e=>K .nrm (Et a b f c d e)):=by kernel_rfl
def f58t20 N a b c g d e f (K:KT J):hY N 19019 (Eu a b c g d e f) f58l12 K =
 b7.Z20 N a b c g d e f (λa b c g d e f=>K .nrm (Eu a b c g d e f)) (λa b c d e f=>K (.exit 2) (oG a b c d e f)):=by kernel_rfl
def f58t19L N (K:KT J):=kC K (b7.Z19L N (λa b c d e f=>K (.exit 2) (oG a b c d e f))) (λa b c g d e f k=>b7.Z20 N a b c g d e f k (λa b c d e f=>K (.exit 2) (oG a b c d e f))) (λF a b c g d e f=>f58t20 N a b c g d e f _) (by kernel_rfl)
def f58t19 N a b c d e f (K:KT J):=vL (Et a b c d e f) (f58t19L N (jK w9 K) N a ([]:List Int) b c d e f) (by kernel_rfl)
def f58t18 N a b f c d e (K:KT J):=vB 2 w9 K (b7.Z18 N a b f c d e (λa g b c d e=>K .nrm (oG a g b c d e))) (f58t19 N a b f c d e _) (by kernel_rfl)
def f58t16 N a b c d e (K:KT J):=vQ (λk=>b7.Z17 N a b c d e k) (f58t17 N a b c d e _) (dz λa b f c d e=>f58t18 N a b f c d e K)
def f58t21 N a f b c d e (K:KT J):hY N 3659 (oG a f b c d e) rZ K =
 b7.Z21 N a f b c d e (λa b c d e=>K .nrm (oF a b c d e)):=by kernel_rfl
def f58t15 N a b c d e (K:KT J):=vQ (λk=>b7.Z16 N a b c d e k) (f58t16 N a b c d e _) (dz λa f b c d e=>f58t21 N a f b c d e K)
def f58t13 N a b c d e (K:KT J):=vQ (λk=>b7.Z14 N a b c d e k) (f58t14 N a b c d e _) (bZ λa b c d e=>f58t15 N a b c d e K)
def f58t12 N a b c d e (K:KT J):=vB 1 rZ K (b7.Z12 N a b c d e (λa b c d e=>K .nrm (oF a b c d e))) (f58t13 N a b c d e _) (by kernel_rfl)
def f58t22 N a b c d e (K:KT J):hY N 459 (oF a b c d e) f58l9 K =
 b7.Z22 N a b c d e (λa b c d e=>K .nrm (Er a b c d e)):=by kernel_rfl
def f58t11 N a b c d e (K:KT J):=vQ (λk=>b7.Z12 N a b c d e k) (f58t12 N a b c d e _) (bZ λa b c d e=>f58t22 N a b c d e K)
def f58t9 N a b c d e (K:KT J):=vQ (λk=>b7.Z10 N a b c d e k (λa=>K (.exit 0) (mr a))) (f58t10 N a b c d e _) (bZ λa b c d e=>f58t11 N a b c d e K)
def f58t8L N (K:KT J):=ji K (b7.Z8L N (λa=>K (.exit 0) (mr a))) (λa b c d e k=>b7.Z9 N a b c d e k (λa=>K (.exit 0) (mr a))) (λF a b c d e=>f58t9 N a b c d e _) (by kernel_rfl)
def f58t8 N a b c d (K:KT J):=vL (Ep a b c d) (f58t8L N (jK xa K) N ([]:List (LI)) a b c d) (by kernel_rfl)
def f58t7 N a b c d (K:KT J):=vB 0 xa K (b7.Z7 N a b c d (λe=>K .nrm (mr e))) (f58t8 N a b c d _) (by kernel_rfl)
def f58t5 N a b c (K:KT J):=vQ (λk=>b7.Z6 N a b c k) (f58t6 N a b c _) (dQ λd a b c=>f58t7 N d a b c K)
def f58t23 N a (K:KT J):hY N 15 (mr a) f58lE K =
 b7.Z23 N a (λb=>K .ret (f58s15 b)):=by kernel_rfl
def f58t4 N a b c (K:KT J):=vQ (λk=>b7.Z5 N a b c k) (f58t5 N a b c _) (funext λd=>f58t23 N d K)
def f58t2 N a b c (K:KT J):=vQ (λk=>b7.Z3 N a b c k) (f58t3 N a b c _) (dP λa b c=>f58t4 N a b c K)
def f58t0 N a (K:KT J):=vQ (λk=>b7.Z1 N a k) (f58t1 N a _) (dP λb c d=>f58t2 N b c d K)
def f58ok(h:b7.Spec):aB Try.prog 58 w7 :=
 bI Try.func58 bg f58GOk (λN X K=>f58t0 N X.1 K) (by kernel_rfl) λX hb hp=>by obtain⟨a,_⟩:=X;obtain⟨N,h⟩:=h a hb.1 hp;exact⟨N,Eq.trans (by kernel_rfl) (h N (Nat.le_refl N))⟩
def e58ok:aB Try.prog 58 w7:=f58ok b7.ok
def Ev:bv:=⟨[⟨.pair (.int .i64) (.pair (.int .i64) (.sl 3 (.int .i64))),true,false⟩,⟨.sl 3 (.int .i64),false,false⟩],[⟨.sl 24 (.sl 3 (.int .i64)),false,false⟩,⟨.bool,false,false⟩]⟩
def xc:aW:=⟨Ev,none,λX=>((),((gk.g X.1 X.2.1).1,((gk.g X.1 X.2.1).2,())))⟩
def Ew:Gm:=aR (aR ba 57 rX) 58 w7
def f15GOk:aq Try.prog Ew:=((aq.nil).add Ei (by kernel_rfl)).add e58ok (by kernel_rfl)
def f15lE:aa:=⟨[],[],[],[],[]⟩
def f15s0(a:MT)(b:LI):St:=bz Ev.ps (a,(b,()))
def f15s1(a:LL)(b:Bool):St:=ah [(4,xo 1000256),(5,xB b)] [] [(1000256,(⟨24,.sl 3 tI,a,true,false⟩:ac))]
def f15l1:aa:=⟨[4,5],[],[⟨⟨false,4,0⟩,30000000,24,.sl 3 (.int .i64),true⟩],[],[(⟨false,4,0⟩,1000256)]⟩
def f15B:Nat->Option aa:=ay [(1000000,f15l1)]
abbrev f15j{J:Type}(N n:Nat)(V:St)(l:aa)(K:KT J):Option J:=ak Ew be f15B N (a6 99 (bf Try.f15) n) .n V (av (some l) K)
def f15t0 N a b (K:KT J):f15j N 1 (f15s0 a b) f15lE K =
 gk.Z0 N a b (λc d=>K .ret (f15s1 c d)):=by kernel_rfl
def f15ok(h:gk.Spec):aB Try.prog 15 xc :=
 bI Try.func15 bg f15GOk (λN X K=>f15t0 N X.1 X.2.1 K) (by kernel_rfl) λX hb hp=>by obtain⟨a,b,_⟩:=X;obtain⟨N,h⟩:=h a b hb.1 hb.2.1;exact⟨N,Eq.trans (by kernel_rfl) (h N (Nat.le_refl N))⟩
def e15ok:aB Try.prog 15 xc:=f15ok gk.ok
def Ey:bv:=⟨[⟨.sl 24 (.sl 3 (.int .i64)),false,false⟩,⟨.int .i64,false,false⟩],[⟨.bool,false,false⟩]⟩
def xd:aW:=⟨Ey,none,λX=>((),((dF.g X.1 X.2.1),()))⟩
def Ez:Gm:=ba
def f19GOk:aq Try.prog Ez:=aq.nil
def f19lE:aa:=⟨[],[],[],[],[]⟩
def f19s0(a:LL)(b:Int):St:=bz Ey.ps (a,(b,()))
def r6(a:LL)(b:Int):St:=ah [(0,.c (.sn 24 (.sl 3 tI) a none)),(1,xi b)] [] []
def EA:aa:=⟨[0,1],[],[],[],[]⟩
def r7(a:LL)(b d:Int):St:=ah [(0,.c (.sn 24 (.sl 3 tI) a none)),(1,xi b),(5,xi d)] [] []
def EB:aa:=⟨[0,1,5],[],[],[],[]⟩
def oH :St:=ah [] [] []
def xe:aa:=⟨[],[],[],[],[]⟩
def jH(a:Bool):St:=ah [(4,xB a)] [] []
def f19l4:aa:=⟨[4],[],[],[],[]⟩
def f19B:Nat->Option aa:=ay [(0,xe),(1000000,f19l4)]
abbrev oI{J:Type}(N n:Nat)(V:St)(l:aa)(K:KT J):Option J:=ak Ez be f19B N (a6 99 (bf Try.f19) n) .n V (av (some l) K)
def f19t1 N a b (K:KT J):oI N 2 (f19s0 a b) EA K =
 dF.Z1 N a b (λa b=>K .nrm (r6 a b)):=by kernel_rfl
def f19t3 N a b (K:KT J):oI N 5 (r6 a b) EA K =
 dF.Z3 N a b (λa b=>K .nrm (r6 a b)) (λc=>K .ret (jH c)):=by kernel_rfl
def f19t6 N a b (K:KT J):oI N 19 (r6 a b) EB K =
 dF.Z6 N a b (λa b c=>K .nrm (r7 a b c)):=by kernel_rfl
def f19t9 N a b c (K:KT J):oI N 75 (r7 a b c) EB K =
 dF.Z9 N a b c (λa b c=>K .nrm (r7 a b c)) (K (.exit 0) oH) (λd=>K .ret (jH d)):=by kernel_rfl
def f19t8L N (K:KT J):=jh K (dF.Z8L N (K (.exit 0) oH) (λa=>K .ret (jH a))) (λb c d k=>dF.Z9 N b c d k (K (.exit 0) oH) (λa=>K .ret (jH a))) (λF b c d=>f19t9 N b c d _) (by kernel_rfl)
def f19t8 N a b c (K:KT J):=vL (r7 a b c) (f19t8L N (jK xe K) N a b c) (by kernel_rfl)
def f19t7 N a b c (K:KT J):=vB 0 xe K (dF.Z7 N a b c (K .nrm oH) (λd=>K .ret (jH d))) (f19t8 N a b c _) (by kernel_rfl)
def f19t5 N a b (K:KT J):=vQ (λk=>dF.Z6 N a b k) (f19t6 N a b _) (dP λa b c=>f19t7 N a b c K)
def f19t10 N  (K:KT J):oI N 15 oH f19lE K =
 dF.Z10 N (λa=>K .ret (jH a)):=by kernel_rfl
def f19t4 N a b (K:KT J):=vQ (λk=>dF.Z5 N a b k (λc=>K .ret (jH c))) (f19t5 N a b _) (f19t10 N K)
def f19t2 N a b (K:KT J):=vQ (λk=>dF.Z3 N a b k (λc=>K .ret (jH c))) (f19t3 N a b _) (eH λa b=>f19t4 N a b K)
def f19t0 N a b (K:KT J):=vQ (λk=>dF.Z1 N a b k) (f19t1 N a b _) (eH λa b=>f19t2 N a b K)
def f19ok(h:dF.Spec):aB Try.prog 19 xd :=
 bI Try.func19 bg f19GOk (λN X K=>f19t0 N X.1 X.2.1 K) (by kernel_rfl) λX hb hp=>by obtain⟨a,b,_⟩:=X;obtain⟨N,h⟩:=h a b hb.1;exact⟨N,Eq.trans (by kernel_rfl) (h N (Nat.le_refl N))⟩
def e19ok:aB Try.prog 19 xd:=f19ok dF.ok
def EC:bv:=⟨[⟨.sl 5 (.int .u8),false,false⟩],[⟨.bool,false,false⟩]⟩
def e4:aW:=⟨EC,none,λX=>((),((aV.g X.1),()))⟩
def ED:Gm:=aR (aR (aR (aR (aR (aR (aR (aR ba 13 vq) 15 xc) 19 xd) 21 w6) 23 wo) 24 wL) 25 wX) 26 wY
def f4GOk:aq Try.prog ED:=((((((((aq.nil).add IW (by kernel_rfl)).add e15ok (by kernel_rfl)).add e19ok (by kernel_rfl)).add e21ok (by kernel_rfl)).add Tc (by kernel_rfl)).add YJ (by kernel_rfl)).add e25ok (by kernel_rfl)).add e26ok (by kernel_rfl)
def f4lE:aa:=⟨[],[],[],[],[]⟩
def f4s0(a:List Int):St:=bz EC.ps (a,())
def r8(a:List Int):St:=ah [(0,.c (.sn 5 (.int .u8) a none))] [] []
def EE:aa:=⟨[0],[],[],[],[]⟩
def EF(a:LI)(b c:Int):St:=ah [(3,xb 3)] [(3,(26,[yi b,yi c,.own 20000194]))] [(20000194,(⟨3,.int .i64,a,true,false⟩:ac))]
def f4l2:aa:=⟨[3],[3],[],[],[(⟨true,3,2⟩,20000194)]⟩
def r9(a:LL)(b:LI)(c:Bool)(d e:Int):St:=ah [(3,xb 3),(6,xo 1000384),(7,xB c)] [(3,(26,[yi d,yi e,.own 20000194]))] [(1000384,(⟨24,.sl 3 tI,a,true,false⟩:ac)),(20000194,(⟨3,.int .i64,b,true,false⟩:ac))]
def EG:aa:=⟨[3,6,7],[3],[],[],[(⟨false,6,0⟩,1000384),(⟨true,3,2⟩,20000194)]⟩
def EH(a:LL)(b:LI)(c d:Bool)(e f:Int):St:=ah [(3,xb 3),(6,xo 1000384),(7,xB c),(9,xB d)] [(3,(26,[yi e,yi f,.own 20000194]))] [(1000384,(⟨24,.sl 3 tI,a,true,false⟩:ac)),(20000194,(⟨3,.int .i64,b,true,false⟩:ac))]
def f4l4:aa:=⟨[3,6,7,9],[3],[],[],[(⟨false,6,0⟩,1000384),(⟨true,3,2⟩,20000194)]⟩
def sa(a:LL)(b:LI)(c d:Int):St:=ah [(3,xb 3),(6,xo 1000384)] [(3,(26,[yi c,yi d,.own 20000194]))] [(1000384,(⟨24,.sl 3 tI,a,true,false⟩:ac)),(20000194,(⟨3,.int .i64,b,true,false⟩:ac))]
def EI:aa:=⟨[3,6],[3],[],[],[(⟨false,6,0⟩,1000384),(⟨true,3,2⟩,20000194)]⟩
def dI(a:LL)(b:LI)(c d e:Int):St:=ah [(3,xb 3),(6,xo 1000384),(10,xi c)] [(3,(26,[yi d,yi e,.own 20000194]))] [(1000384,(⟨24,.sl 3 tI,a,true,false⟩:ac)),(20000194,(⟨3,.int .i64,b,true,false⟩:ac))]
def gi:aa:=⟨[3,6,10],[3],[],[],[(⟨false,6,0⟩,1000384),(⟨true,3,2⟩,20000194)]⟩
def sb(a:LL)(b:LI)(c d e f:Int):St:=ah [(3,xb 3),(6,xo 1000384),(10,xi c),(11,xi d)] [(3,(26,[yi e,yi f,.own 20000194]))] [(1000384,(⟨24,.sl 3 tI,a,true,false⟩:ac)),(20000194,(⟨3,.int .i64,b,true,false⟩:ac))]
def EJ:aa:=⟨[3,6,10,11],[3],[],[],[(⟨false,6,0⟩,1000384),(⟨true,3,2⟩,20000194)]⟩
def EK(a b:LL)(c:LI)(d:Int)(e:Bool)(f g:Int):St:=ah [(3,xb 3),(6,xo 1000384),(10,xi d),(12,xo 1000768),(13,xB e)] [(3,(26,[yi f,yi g,.own 20000194]))] [(1000384,(⟨24,.sl 3 tI,a,true,false⟩:ac)),(1000768,(⟨24,.sl 3 tI,b,true,false⟩:ac)),(20000194,(⟨3,.int .i64,c,true,false⟩:ac))]
def f4l8:aa:=⟨[3,6,10,12,13],[3],[],[],[(⟨false,6,0⟩,1000384),(⟨false,12,0⟩,1000768),(⟨true,3,2⟩,20000194)]⟩
def EL(a b:LL)(c:LI)(d e f:Int):St:=ah [(3,xb 3),(6,xo 1000384),(10,xi d),(12,xo 1000768)] [(3,(26,[yi e,yi f,.own 20000194]))] [(1000384,(⟨24,.sl 3 tI,a,true,false⟩:ac)),(1000768,(⟨24,.sl 3 tI,b,true,false⟩:ac)),(20000194,(⟨3,.int .i64,c,true,false⟩:ac))]
def f4l9:aa:=⟨[3,6,10,12],[3],[],[],[(⟨false,6,0⟩,1000384),(⟨false,12,0⟩,1000768),(⟨true,3,2⟩,20000194)]⟩
def iG(a b:LL)(c:LI)(d e f g:Int):St:=ah [(3,xb 3),(6,xo 1000384),(10,xi d),(12,xo 1000768),(14,xi e)] [(3,(26,[yi f,yi g,.own 20000194]))] [(1000384,(⟨24,.sl 3 tI,a,true,false⟩:ac)),(1000768,(⟨24,.sl 3 tI,b,true,false⟩:ac)),(20000194,(⟨3,.int .i64,c,true,false⟩:ac))]
def mt:aa:=⟨[3,6,10,12,14],[3],[],[],[(⟨false,6,0⟩,1000384),(⟨false,12,0⟩,1000768),(⟨true,3,2⟩,20000194)]⟩
def kV(a b:LL)(c:LI)(d e f g h i:Int):St:=ah [(3,xb 3),(6,xo 1000384),(10,xi d),(12,xo 1000768),(14,xi e),(15,xi f),(16,xi g)] [(3,(26,[yi h,yi i,.own 20000194]))] [(1000384,(⟨24,.sl 3 tI,a,true,false⟩:ac)),(1000768,(⟨24,.sl 3 tI,b,true,false⟩:ac)),(20000194,(⟨3,.int .i64,c,true,false⟩:ac))]
def sc:aa:=⟨[3,6,10,12,14,15,16],[3],[],[],[(⟨false,6,0⟩,1000384),(⟨false,12,0⟩,1000768),(⟨true,3,2⟩,20000194)]⟩
def sd(a b:LL)(c:LI)(d e f g h i j:Int):St:=ah [(3,xb 3),(6,xo 1000384),(10,xi d),(12,xo 1000768),(14,xi e),(15,xi f),(16,xi g),(17,xi h)] [(3,(26,[yi i,yi j,.own 20000194]))] [(1000384,(⟨24,.sl 3 tI,a,true,false⟩:ac)),(1000768,(⟨24,.sl 3 tI,b,true,false⟩:ac)),(20000194,(⟨3,.int .i64,c,true,false⟩:ac))]
def EM:aa:=⟨[3,6,10,12,14,15,16,17],[3],[],[],[(⟨false,6,0⟩,1000384),(⟨false,12,0⟩,1000768),(⟨true,3,2⟩,20000194)]⟩
def mv :St:=ah [] [] []
def xf:aa:=⟨[],[],[],[],[]⟩
def cb(a:Bool):St:=ah [(2,xB a)] [] []
def f4l14:aa:=⟨[2],[],[],[],[]⟩
def f4B:Nat->Option aa:=ay [(2,gi),(6,sc),(5,mt),(4,gi),(1,gi),(0,xf),(1000000,f4l14)]
abbrev dc{J:Type}(N n:Nat)(V:St)(l:aa)(K:KT J):Option J:=ak ED be f4B N (a6 99 (bf Try.f4) n) .n V (av (some l) K)
def f4t1 N a (K:KT J):dc N 2 (f4s0 a) EE K =
 aV.Z1 N a (λa=>K .nrm (r8 a)):=by kernel_rfl
def f4t3 N a (K:KT J):dc N 5 (r8 a) EE K =
 aV.Z3 N a (λa=>K .nrm (r8 a)) (λb=>K .ret (cb b)):=by kernel_rfl
def f4t5 N a (K:KT J):dc N 11 (r8 a) f4l2 K =
 aV.Z5 N a (λb c d=>K .nrm (EF b c d)):=by kernel_rfl
def f4t7 N a b c (K:KT J):dc N 23 (EF a b c) EG K =
 aV.Z7 N a b c (λd a e b c=>K .nrm (r9 d a e b c)):=by kernel_rfl
def f4t9 N a b c d e (K:KT J):dc N 47 (r9 a b c d e) f4l4 K =
 aV.Z9 N a b c d e (λa b c f d e=>K .nrm (EH a b c f d e)):=by kernel_rfl
def f4t11 N a b c f d e (K:KT J):dc N 95 (EH a b c f d e) EG K =
 aV.Z11 N a b c f d e (λa b c d e=>K .nrm (r9 a b c d e)) (λg=>K .ret (cb g)):=by kernel_rfl
def f4t13 N a b e c d (K:KT J):dc N 191 (r9 a b e c d) EI K =
 aV.Z13 N a b e c d (λa b c d=>K .nrm (sa a b c d)) (λf=>K .ret (cb f)):=by kernel_rfl
def f4t15 N a b c d (K:KT J):dc N 383 (sa a b c d) EI K =
 aV.Z15 N a b c d (λa b c d=>K .nrm (sa a b c d)) (λe=>K .ret (cb e)):=by kernel_rfl
def f4t18 N a b c d (K:KT J):dc N 1279 (sa a b c d) gi K =
 aV.Z18 N a b c d (λa b e c d=>K .nrm (dI a b e c d)):=by kernel_rfl
def f4t22 N a b c d e (K:KT J):dc N 8959 (dI a b c d e) gi K =
 aV.Z22 N a b c d e (λa b c d e=>K .nrm (dI a b c d e)) (K (.exit 0) mv):=by kernel_rfl
def f4t26 N a b c d e (K:KT J):dc N 70399 (dI a b c d e) gi K =
 aV.Z26 N a b c d e (λa b c d e=>K .nrm (dI a b c d e)) (λf=>K .ret (cb f)):=by kernel_rfl
def f4t29 N a b c d e (K:KT J):dc N 299775 (dI a b c d e) EJ K =
 aV.Z29 N a b c d e (λa b c f d e=>K .nrm (sb a b c f d e)):=by kernel_rfl
def f4t32 N a b c f d e (K:KT J):dc N 1217279 (sb a b c f d e) EJ K =
 aV.Z32 N a b c f d e (λa b c f d e=>K .nrm (sb a b c f d e)) (λa b c d e=>K (.exit 2) (dI a b c d e)) (λg=>K .ret (cb g)):=by kernel_rfl
def f4t31L N (K:KT J):=nB K (aV.Z31L N (λa b c d e=>K (.exit 2) (dI a b c d e)) (λf=>K .ret (cb f))) (λa b c g d e k=>aV.Z32 N a b c g d e k (λa b c d e=>K (.exit 2) (dI a b c d e)) (λf=>K .ret (cb f))) (λF a b c g d e=>f4t32 N a b c g d e _) (by kernel_rfl)
def f4t31 N a b c d e f (K:KT J):=vL (sb a b c d e f) (f4t31L N (jK gi K) N a b c d e f) (by kernel_rfl)
def f4t30 N a b c f d e (K:KT J):=vB 2 gi K (aV.Z30 N a b c f d e (λa b c d e=>K .nrm (dI a b c d e)) (λg=>K .ret (cb g))) (f4t31 N a b c f d e _) (by kernel_rfl)
def f4t28 N a b c d e (K:KT J):=vQ (λk=>aV.Z29 N a b c d e k) (f4t29 N a b c d e _) (dz λa b c f d e=>f4t30 N a b c f d e K)
def f4t34 N a b c d e (K:KT J):dc N 365311 (dI a b c d e) f4l8 K =
 aV.Z34 N a b c d e (λa f b c g d e=>K .nrm (EK a f b c g d e)):=by kernel_rfl
def f4t36 N a b c d g e f (K:KT J):dc N 758527 (EK a b c d g e f) f4l9 K =
 aV.Z36 N a b c d g e f (λa b c d e f=>K .nrm (EL a b c d e f)) (λh=>K .ret (cb h)):=by kernel_rfl
def f4t38 N a b c d e f (K:KT J):dc N 1544959 (EL a b c d e f) mt K =
 aV.Z38 N a b c d e f (λa b c d g e f=>K .nrm (iG a b c d g e f)):=by kernel_rfl
def f4t42 N a f b c g d e (K:KT J):dc N 9409279 (iG a f b c g d e) mt K =
 aV.Z42 N a f b c g d e (λa f b c g d e=>K .nrm (iG a f b c g d e)) (λa b c d e=>K (.exit 4) (dI a b c d e)):=by kernel_rfl
def f4t46 N a b c d e f g (K:KT J):dc N 72323839 (iG a b c d e f g) sc K =
 aV.Z46 N a b c d e f g (λa b c d e h i f g=>K .nrm (kV a b c d e h i f g)):=by kernel_rfl
def f4t49 N a b c d e f g h i (K:KT J):dc N 307204863 (kV a b c d e f g h i) EM K =
 aV.Z49 N a b c d e f g h i (λa b c d e f g j h i=>K .nrm (sd a b c d e f g j h i)):=by kernel_rfl
def f4t52 N a b c d e f g j h i (K:KT J):dc N 1246728959 (sd a b c d e f g j h i) EM K =
 aV.Z52 N a b c d e f g j h i (λa b c d e f g j h i=>K .nrm (sd a b c d e f g j h i)) (λa b c d e f g h i=>K (.exit 6) (kV a b c d e f g h i)) (λl=>K .ret (cb l)):=by kernel_rfl
def f4t51L N (K:KT J):=iq K (aV.Z51L N (λa b c d e f g h i=>K (.exit 6) (kV a b c d e f g h i)) (λj=>K .ret (cb j))) (λa b c d e f g l h i k=>aV.Z52 N a b c d e f g l h i k (λa b c d e f g h i=>K (.exit 6) (kV a b c d e f g h i)) (λj=>K .ret (cb j))) (λF a b c d e f g l h i=>f4t52 N a b c d e f g l h i _) (by kernel_rfl)
def f4t51 N a b c d e f g h i j (K:KT J):=vL (sd a b c d e f g h i j) (f4t51L N (jK sc K) N a b c d e f g h i j) (by kernel_rfl)
def f4t50 N a b c d e f g j h i (K:KT J):=vB 6 sc K (aV.Z50 N a b c d e f g j h i (λa b c d e f g h i=>K .nrm (kV a b c d e f g h i)) (λl=>K .ret (cb l))) (f4t51 N a b c d e f g j h i _) (by kernel_rfl)
def f4t48 N a b c d e f g h i (K:KT J):=vQ (λk=>aV.Z49 N a b c d e f g h i k) (f4t49 N a b c d e f g h i _) (dC λa b c d e f g j h i=>f4t50 N a b c d e f g j h i K)
def f4t53 N a b c d e h i f g (K:KT J):dc N 240095999 (kV a b c d e h i f g) mt K =
 aV.Z53 N a b c d e h i f g (λa b c d e f g=>K .nrm (iG a b c d e f g)) (λj=>K .ret (cb j)):=by kernel_rfl
def f4t47 N a b c d e f g h i (K:KT J):=vQ (λk=>aV.Z48 N a b c d e f g h i k (λj=>K .ret (cb j))) (f4t48 N a b c d e f g h i _) (dB λa b c d e f g h i=>f4t53 N a b c d e f g h i K)
def f4t45 N a b c d e f g (K:KT J):=vQ (λk=>aV.Z46 N a b c d e f g k) (f4t46 N a b c d e f g _) (dB λa b c d e h i f g=>f4t47 N a b c d e h i f g K)
def f4t44 N a b c d e f g (K:KT J):=vB 5 mt K (aV.Z44 N a b c d e f g (λa b c d e f g=>K .nrm (iG a b c d e f g)) (λh=>K .ret (cb h))) (f4t45 N a b c d e f g _) (by kernel_rfl)
def f4t54 N a b c d e f g (K:KT J):dc N 30380799 (iG a b c d e f g) mt K =
 aV.Z54 N a b c d e f g (λa b c d e f g=>K .nrm (iG a b c d e f g)):=by kernel_rfl
def f4t43 N a b c d e f g (K:KT J):=vQ (λk=>aV.Z44 N a b c d e f g k (λh=>K .ret (cb h))) (f4t44 N a b c d e f g _) (eI λa b c d e f g=>f4t54 N a b c d e f g K)
def f4t41 N a f b c g d e (K:KT J):=vQ (λk=>aV.Z42 N a f b c g d e k (λa b c d e=>K (.exit 4) (dI a b c d e))) (f4t42 N a f b c g d e _) (eI λa f b c g d e=>f4t43 N a f b c g d e K)
def f4t40L N (K:KT J):=kC K (aV.Z40L N (λa b c d e=>K (.exit 4) (dI a b c d e)) (λf=>K .ret (cb f))) (λa g b c h d e k=>aV.Z41 N a g b c h d e k (λa b c d e=>K (.exit 4) (dI a b c d e)) (λf=>K .ret (cb f))) (λF a g b c h d e=>f4t41 N a g b c h d e _) (by kernel_rfl)
def f4t40 N a b c d e f g (K:KT J):=vL (iG a b c d e f g) (f4t40L N (jK gi K) N a b c d e f g) (by kernel_rfl)
def f4t39 N a f b c g d e (K:KT J):=vB 4 gi K (aV.Z39 N a f b c g d e (λa b c d e=>K .nrm (dI a b c d e)) (λh=>K .ret (cb h))) (f4t40 N a f b c g d e _) (by kernel_rfl)
def f4t37 N a b c d e f (K:KT J):=vQ (λk=>aV.Z38 N a b c d e f k) (f4t38 N a b c d e f _) (eI λa b c d g e f=>f4t39 N a b c d g e f K)
def f4t35 N a b c d g e f (K:KT J):=vQ (λk=>aV.Z36 N a b c d g e f k (λh=>K .ret (cb h))) (f4t36 N a b c d g e f _) (dz λa b c d e f=>f4t37 N a b c d e f K)
def f4t33 N a b c d e (K:KT J):=vQ (λk=>aV.Z34 N a b c d e k) (f4t34 N a b c d e _) (eI λa f b c g d e=>f4t35 N a f b c g d e K)
def f4t27 N a b c d e (K:KT J):=vQ (λk=>aV.Z28 N a b c d e k (λf=>K .ret (cb f))) (f4t28 N a b c d e _) (bZ λa b c d e=>f4t33 N a b c d e K)
def f4t25 N a b c d e (K:KT J):=vQ (λk=>aV.Z26 N a b c d e k (λf=>K .ret (cb f))) (f4t26 N a b c d e _) (bZ λa b c d e=>f4t27 N a b c d e K)
def f4t24 N a b c d e (K:KT J):=vB 1 gi K (aV.Z24 N a b c d e (λa b c d e=>K .nrm (dI a b c d e)) (λf=>K .ret (cb f))) (f4t25 N a b c d e _) (by kernel_rfl)
def f4t55 N a b c d e (K:KT J):dc N 29439 (dI a b c d e) gi K =
 aV.Z55 N a b c d e (λa b c d e=>K .nrm (dI a b c d e)):=by kernel_rfl
def f4t23 N a b c d e (K:KT J):=vQ (λk=>aV.Z24 N a b c d e k (λf=>K .ret (cb f))) (f4t24 N a b c d e _) (bZ λa b c d e=>f4t55 N a b c d e K)
def f4t21 N a b c d e (K:KT J):=vQ (λk=>aV.Z22 N a b c d e k (K (.exit 0) mv)) (f4t22 N a b c d e _) (bZ λa b c d e=>f4t23 N a b c d e K)
def f4t20L N (K:KT J):=ji K (aV.Z20L N (K (.exit 0) mv) (λa=>K .ret (cb a))) (λb c d e f k=>aV.Z21 N b c d e f k (K (.exit 0) mv) (λa=>K .ret (cb a))) (λF b c d e f=>f4t21 N b c d e f _) (by kernel_rfl)
def f4t20 N a b c d e (K:KT J):=vL (dI a b c d e) (f4t20L N (jK xf K) N a b c d e) (by kernel_rfl)
def f4t19 N a b c d e (K:KT J):=vB 0 xf K (aV.Z19 N a b c d e (K .nrm mv) (λf=>K .ret (cb f))) (f4t20 N a b c d e _) (by kernel_rfl)
def f4t17 N a b c d (K:KT J):=vQ (λk=>aV.Z18 N a b c d k) (f4t18 N a b c d _) (bZ λa b e c d=>f4t19 N a b e c d K)
def f4t56 N  (K:KT J):dc N 1023 mv f4lE K =
 aV.Z56 N (λa=>K .ret (cb a)):=by kernel_rfl
def f4t16 N a b c d (K:KT J):=vQ (λk=>aV.Z17 N a b c d k (λe=>K .ret (cb e))) (f4t17 N a b c d _) (f4t56 N K)
def f4t14 N a b c d (K:KT J):=vQ (λk=>aV.Z15 N a b c d k (λe=>K .ret (cb e))) (f4t15 N a b c d _) (dQ λa b c d=>f4t16 N a b c d K)
def f4t12 N a b e c d (K:KT J):=vQ (λk=>aV.Z13 N a b e c d k (λf=>K .ret (cb f))) (f4t13 N a b e c d _) (dQ λa b c d=>f4t14 N a b c d K)
def f4t10 N a b c f d e (K:KT J):=vQ (λk=>aV.Z11 N a b c f d e k (λg=>K .ret (cb g))) (f4t11 N a b c f d e _) (bZ λa b c d e=>f4t12 N a b c d e K)
def f4t8 N a b c d e (K:KT J):=vQ (λk=>aV.Z9 N a b c d e k) (f4t9 N a b c d e _) (dz λa b c f d e=>f4t10 N a b c f d e K)
def f4t6 N a b c (K:KT J):=vQ (λk=>aV.Z7 N a b c k) (f4t7 N a b c _) (bZ λd a e b c=>f4t8 N d a e b c K)
def f4t4 N a (K:KT J):=vQ (λk=>aV.Z5 N a k) (f4t5 N a _) (dP λb c d=>f4t6 N b c d K)
def f4t2 N a (K:KT J):=vQ (λk=>aV.Z3 N a k (λb=>K .ret (cb b))) (f4t3 N a _) (funext λa=>f4t4 N a K)
def f4t0 N a (K:KT J):=vQ (λk=>aV.Z1 N a k) (f4t1 N a _) (funext λa=>f4t2 N a K)
def f4ok(h:aV.Spec):aB Try.prog 4 e4 :=
 bI Try.func4 bg f4GOk (λN X K=>f4t0 N X.1 K) (by kernel_rfl) λX hb hp=>by obtain⟨a,_⟩:=X;obtain⟨N,h⟩:=h a hb.1;exact⟨N,Eq.trans (by kernel_rfl) (h N (Nat.le_refl N))⟩
def e4ok:aB Try.prog 4 e4:=f4ok aV.ok
end Go.Fw
