/- The ties: the program's text comes to the plain functions. Nothing is assumed. -/
import Derived.Test.YtillpdbmnjkjiaaPuFnRenamedb
import Derived.Test.YtillpdbmnjkjiaaTiFnRenameda
import Derived.Test.YtillpdbmnjkjiaaTiFnRenamedb
import Derived.Test.YtillpdbmnjkjiaaPuFnRenamedc
noncomputable section
set_option linter.unusedVariables false
set_option linter.unusedSimpArgs false
set_option maxRecDepth 100000
namespace Go.Fw
variable {ρ:Type}
open Go.Proofs
def zp0:Sig:=⟨[⟨.pair (.int .i64) (.pair (.int .i64) (.sl 3 (.int .i64))),true,false⟩],[⟨.bool,false,false⟩]⟩
def e40:z2v:=⟨zp0,none,fun X=>((),((z06.g X.1),()))⟩
def f40G:Gm:=z4p (z4p z24 31 e31) 83 e83
theorem f40GOk:GOk Try.prog f40G:=((GOk.nil).add y6a (by kernel_rfl)).add e83ok (by kernel_rfl)
def za0:z09:=⟨[],[],[],[],[]⟩
def f40s0 (a:MT):St:=z2j zp0.ps (a,())
def zwe (a b:Int) (c:LI):St:=z1k [(1,xb 1)] [(1,(30,[yi a,yi b,.sn 3 tI c none]))] []
def f40l1:z09:=⟨[1],[1],[],[],[]⟩
def zen (a b:Int) (d e:LI):St:=z1k [(1,xb 1),(3,.c (.mp 11))] [(1,(30,[yi a,yi b,.sn 3 tI d none])),(11,(1000000095,[.mset tI e]))] []
def zg1:z09:=⟨[1,3],[1,11],[],[],[]⟩
def zwd (a b d:Int) (e f:LI):St:=z1k [(1,xb 1),(3,.c (.mp 11)),(4,xi a)] [(1,(30,[yi b,yi d,.sn 3 tI e none])),(11,(1000000095,[.mset tI f]))] []
def y2b:z09:=⟨[1,3,4],[1,11],[],[],[]⟩
def z72 (a b d e:Int) (f g:LI):St:=z1k [(1,xb 1),(3,.c (.mp 11)),(21,xi a),(22,xi b)] [(1,(30,[yi d,yi e,.sn 3 tI f none])),(11,(1000000095,[.mset tI g]))] []
def z67:z09:=⟨[1,3,21,22],[1,11],[],[],[]⟩
def f40s5 (a b:Int) (d:Bool) (e f:Int) (g h:LI):St:=z1k [(1,xb 1),(3,.c (.mp 11)),(21,xi a),(22,xi b),(23,xB d)] [(1,(30,[yi e,yi f,.sn 3 tI g none])),(11,(1000000095,[.mset tI h]))] []
def f40l5:z09:=⟨[1,3,21,22,23],[1,11],[],[],[]⟩
def z8f (a b d e f g:Int) (h i:LI):St:=z1k [(1,xb 1),(3,.c (.mp 11)),(21,xi a),(22,xi b),(25,xi d),(26,xi e)] [(1,(30,[yi f,yi g,.sn 3 tI h none])),(11,(1000000095,[.mset tI i]))] []
def z5w:z09:=⟨[1,3,21,22,25,26],[1,11],[],[],[]⟩
def f40s7 (a b d e:Int) (f:Bool) (g h:Int) (i j:LI):St:=z1k [(1,xb 1),(3,.c (.mp 11)),(21,xi a),(22,xi b),(25,xi d),(26,xi e),(27,xB f)] [(1,(30,[yi g,yi h,.sn 3 tI i none])),(11,(1000000095,[.mset tI j]))] []
def f40l7:z09:=⟨[1,3,21,22,25,26,27],[1,11],[],[],[]⟩
def f40s8 (a b d e f g h:Int) (i j:LI):St:=z1k [(1,xb 1),(3,.c (.mp 11)),(5,xi a),(21,xi b),(22,xi d),(25,xi e),(26,xi f)] [(1,(30,[yi g,yi h,.sn 3 tI i none])),(11,(1000000095,[.mset tI j]))] []
def f40l8:z09:=⟨[1,3,5,21,22,25,26],[1,11],[],[],[]⟩
def zhg (a:Int) (b:Bool) (d e f g h i:Int) (j l:LI):St:=z1k [(1,xb 1),(3,.c (.mp 11)),(5,xi a),(6,xB b),(21,xi d),(22,xi e),(25,xi f),(26,xi g)] [(1,(30,[yi h,yi i,.sn 3 tI j none])),(11,(1000000095,[.mset tI l]))] []
def zg0:z09:=⟨[1,3,5,6,21,22,25,26],[1,11],[],[],[]⟩
def zkc (a:Int) (b:Bool) (d e f g h i j l:Int) (m o:LI):St:=z1k [(1,xb 1),(3,.c (.mp 11)),(5,xi a),(6,xB b),(21,xi d),(22,xi e),(25,xi f),(26,xi g),(30,xi h),(31,xi i)] [(1,(30,[yi j,yi l,.sn 3 tI m none])),(11,(1000000095,[.mset tI o]))] []
def zp1:z09:=⟨[1,3,5,6,21,22,25,26,30,31],[1,11],[],[],[]⟩
def zbj (a:LI):St:=z1k [(3,.c (.mp 11))] [(11,(1000000095,[.mset tI a]))] []
def zbk:z09:=⟨[3],[11],[],[],[]⟩
def zfe (a:Bool):St:=z1k [(2,xB a)] [] []
def f40l12:z09:=⟨[2],[],[],[],[]⟩
def f40B:Nat→Option z09:=z1n [(0,zg1),(6,zg0),(5,z5w),(4,z67),(3,z67),(2,zbk),(1000000,f40l12)]
abbrev z4w {ρ:Type} (N:Nat) (c:Code) (p:z0p) (σ:St) (K:KT ρ):Option ρ:=z1t f40G tab f40B N c p σ K
def z4v (n:Nat):Code:=z2x 99 (z25 Try.f40) n
theorem f40t1 N a (K:KT ρ):z4w N (z4v 2) .n (f40s0 a) (z00 (some f40l1) K) =
 z06.Z1 N a (fun b c d=>K .nrm (zwe b c d)):=by kernel_rfl
theorem f40t3 N a b c (K:KT ρ):z4w N (z4v 5) .n (zwe a b c) (z00 (some f40l1) K) =
 z06.Z3 N a b c (fun a b c=>K .nrm (zwe a b c)) (fun d=>K .ret (zfe d)):=by kernel_rfl
theorem f40t5 N a b c (K:KT ρ):z4w N (z4v 11) .n (zwe a b c) (z00 (some zg1) K) =
 z06.Z5 N a b c (fun a b c d=>K .nrm (zen a b c d)):=by kernel_rfl
theorem f40t8 N a b c d (K:KT ρ):z4w N (z4v 39) .n (zen a b c d) (z00 (some y2b) K) =
 z06.Z8 N a b c d (fun e a b c d=>K .nrm (zwd e a b c d)):=by kernel_rfl
theorem f40t11 N e a b c d (K:KT ρ):z4w N (z4v 151) .n (zwd e a b c d) (z00 (some y2b) K) =
 z06.Z11 N e a b c d (fun e a b c d=>K .nrm (zwd e a b c d)) (fun a b c d=>K (.exit 0) (zen a b c d)):=by kernel_rfl
def f40p10:z0p:=.mk none (some y2b) .n .n
abbrev f40w10 {ρ:Type} (N M:Nat) (σ:St) (K:KT ρ):Option ρ:=z2r (fun σ K=>z4w N (z4v 151) .n σ K) y2b M σ K
theorem y1y {ρ:Type} (N:Nat) (K:KT ρ):∀ (M:Nat) (e a b:Int) (c d:LI),f40w10 N M (zwd e a b c d) K =
 z06.Z10L N (fun a b c d=>K (.exit 0) (zen a b c d)) M e a b c d
 | 0,_,_,_,_,_=>rfl
 | M + 1,e,a,b,c,d=>z12 (fun k=>z06.Z11 N e a b c d k (fun a b c d=>K (.exit 0) (zen a b c d))) (f40t11 N (K:=z16 (fun σ=>f40w10 N M σ K) K) ..) (fx5 fun e a b c d=>y1y N K M e a b c d) (by kernel_rfl)
theorem f40t10 N e a b c d (K:KT ρ):z4w N (z4v 87) f40p10 (zwd e a b c d) (z00 (some zg1) K) =
  z06.Z10 N e a b c d (fun a b c d=>K (.exit 0) (zen a b c d)) :=
 z1d (by kernel_rfl) (y1y N (z00 (some zg1) K) N e a b c d) (by kernel_rfl)
def f40p9:z0p:=.mk (some zg1) none f40p10 .n
theorem f40t9 N e a b c d (K:KT ρ):z4w N (z4v 55) f40p9 (zwd e a b c d) (z00 (some zg1) K) =
  z06.Z9 N e a b c d (fun a b c d=>K .nrm (zen a b c d)) :=
 z0n (by kernel_rfl) (f40t10 N (K:=z1j 0 (z00 (some zg1) K)) ..) (by kernel_rfl)
def f40p7:z0p:=.mk (some y2b) none .n f40p9
theorem f40t7 N a b c d (K:KT ρ):z4w N (z4v 23) f40p7 (zen a b c d) (z00 (some zg1) K) =
  z06.Z7 N a b c d (fun a b c d=>K .nrm (zen a b c d)) :=
 z05 (fun k=>z06.Z8 N a b c d k) (by kernel_rfl) (f40t8 N (K:=z16 (fun σ=>z4w N (z4v 55) f40p9 σ (z00 (some zg1) K)) (z00 (some zg1) K)) ..) (fx5 fun e a b c d=>f40t9 N e a b c d K) (by kernel_rfl)
theorem f40t14 N a b c d (K:KT ρ):z4w N (z4v 79) .n (zen a b c d) (z00 (some z67) K) =
 z06.Z14 N a b c d (fun e f a b c d=>K .nrm (z72 e f a b c d)):=by kernel_rfl
theorem f40t18 N a b c d e f (K:KT ρ):z4w N (z4v 559) .n (z72 a b c d e f) (z00 (some f40l5) K) =
 z06.Z18 N a b c d e f (fun a b g c d e f=>K .nrm (f40s5 a b g c d e f)):=by kernel_rfl
theorem f40t20 N b c g d e f a (K:KT ρ):z4w N (z4v 1327) .n (f40s5 b c g d e f a) (z00 (some z67) K) =
 z06.Z20 N b c g d e f a (fun b c d e f a=>K .nrm (z72 b c d e f a)) (fun a=>K (.exit 2) (zbj a)):=by kernel_rfl
theorem f40t24 N a b c d e f (K:KT ρ):z4w N (z4v 9007) .n (z72 a b c d e f) (z00 (some z5w) K) =
 z06.Z24 N a b c d e f (fun a b g h c d e f=>K .nrm (z8f a b g h c d e f)):=by kernel_rfl
theorem f40t28 N a b c d e f g h (K:KT ρ):z4w N (z4v 70447) .n (z8f a b c d e f g h) (z00 (some f40l7) K) =
 z06.Z28 N a b c d e f g h (fun a b c d i e f g h=>K .nrm (f40s7 a b c d i e f g h)):=by kernel_rfl
theorem f40t30 N a b g h i c d e f (K:KT ρ):z4w N (z4v 168751) .n (f40s7 a b g h i c d e f) (z00 (some z5w) K) =
 z06.Z30 N a b g h i c d e f (fun a b g h c d e f=>K .nrm (z8f a b g h c d e f)) (fun a b c d e f=>K (.exit 4) (z72 a b c d e f)):=by kernel_rfl
theorem f40t34 N a b c d e f g h (K:KT ρ):z4w N (z4v 1151791) .n (z8f a b c d e f g h) (z00 (some f40l8) K) =
 z06.Z34 N a b c d e f g h (fun i a b c d e f g h=>K .nrm (f40s8 i a b c d e f g h)):=by kernel_rfl
theorem f40t36 N a b c d e f g h i (K:KT ρ):z4w N (z4v 2724655) .n (f40s8 a b c d e f g h i) (z00 (some zg0) K) =
 z06.Z36 N a b c d e f g h i (fun a j b c d e f g h i=>K .nrm (zhg a j b c d e f g h i)):=by kernel_rfl
theorem f40t39 N a b c d e f g h i j (K:KT ρ):z4w N (z4v 10064687) .n (zhg a b c d e f g h i j) (z00 (some zp1) K) =
 z06.Z39 N a b c d e f g h i j (fun a b c d e f l m g h i j=>K .nrm (zkc a b c d e f l m g h i j)):=by kernel_rfl
theorem f40t42 N a b c d e f l m g h i j (K:KT ρ):z4w N (z4v 39424815) .n (zkc a b c d e f l m g h i j) (z00 (some zp1) K) =
 z06.Z42 N a b c d e f l m g h i j (fun a b c d e f l m g h i j=>K .nrm (zkc a b c d e f l m g h i j)) (fun a b c d e f g h i j=>K (.exit 6) (zhg a b c d e f g h i j)):=by kernel_rfl
def f40p41:z0p:=.mk none (some zp1) .n .n
abbrev f40w41 {ρ:Type} (N M:Nat) (σ:St) (K:KT ρ):Option ρ:=z2r (fun σ K=>z4w N (z4v 39424815) .n σ K) zp1 M σ K
theorem y1v {ρ:Type} (N:Nat) (K:KT ρ):∀ (M:Nat) (a:Int) (b:Bool) (c d e f l m g h:Int) (i j:LI),f40w41 N M (zkc a b c d e f l m g h i j) K =
 z06.Z41L N (fun a b c d e f g h i j=>K (.exit 6) (zhg a b c d e f g h i j)) M a b c d e f l m g h i j
 | 0,_,_,_,_,_,_,_,_,_,_,_,_=>rfl
 | M + 1,a,b,c,d,e,f,l,m,g,h,i,j=>z12 (fun k=>z06.Z42 N a b c d e f l m g h i j k (fun a b c d e f g h i j=>K (.exit 6) (zhg a b c d e f g h i j))) (f40t42 N (K:=z16 (fun σ=>f40w41 N M σ K) K) ..) (ztk fun a b c d e f l m g h i j=>y1v N K M a b c d e f l m g h i j) (by kernel_rfl)
theorem f40t41 N a b c d e f l m g h i j (K:KT ρ):z4w N (z4v 22647599) f40p41 (zkc a b c d e f l m g h i j) (z00 (some zg0) K) =
  z06.Z41 N a b c d e f l m g h i j (fun a b c d e f g h i j=>K (.exit 6) (zhg a b c d e f g h i j)) :=
 z1d (by kernel_rfl) (y1v N (z00 (some zg0) K) N a b c d e f l m g h i j) (by kernel_rfl)
def y1z:z0p:=.mk (some zg0) none f40p41 .n
theorem f40t40 N a b c d e f l m g h i j (K:KT ρ):z4w N (z4v 14258991) y1z (zkc a b c d e f l m g h i j) (z00 (some zg0) K) =
  z06.Z40 N a b c d e f l m g h i j (fun a b c d e f g h i j=>K .nrm (zhg a b c d e f g h i j)) :=
 z0n (by kernel_rfl) (f40t41 N (K:=z1j 6 (z00 (some zg0) K)) ..) (by kernel_rfl)
def f40p38:z0p:=.mk (some zp1) none .n y1z
theorem f40t38 N a b c d e f g h i j (K:KT ρ):z4w N (z4v 5870383) f40p38 (zhg a b c d e f g h i j) (z00 (some zg0) K) =
  z06.Z38 N a b c d e f g h i j (fun a b c d e f g h i j=>K .nrm (zhg a b c d e f g h i j)) :=
 z05 (fun k=>z06.Z39 N a b c d e f g h i j k) (by kernel_rfl) (f40t39 N (K:=z16 (fun σ=>z4w N (z4v 14258991) y1z σ (z00 (some zg0) K)) (z00 (some zg0) K)) ..) (ztk fun a b c d e f l m g h i j=>f40t40 N a b c d e f l m g h i j K) (by kernel_rfl)
theorem f40t43 N i j a b c d e f g h (K:KT ρ):z4w N (z4v 7967535) .n (zhg i j a b c d e f g h) (z00 (some z5w) K) =
 z06.Z43 N i j a b c d e f g h (fun a b c d e f g h=>K .nrm (z8f a b c d e f g h)):=by kernel_rfl
def y20:z0p:=.mk (some zg0) none f40p38 .n
theorem f40t37 N i j a b c d e f g h (K:KT ρ):z4w N (z4v 3773231) y20 (zhg i j a b c d e f g h) (z00 (some z5w) K) =
  z06.Z37 N i j a b c d e f g h (fun a b c d e f g h=>K .nrm (z8f a b c d e f g h)) :=
 z05 (fun k=>z06.Z38 N i j a b c d e f g h k) (by kernel_rfl) (f40t38 N (K:=z16 (fun σ=>z4w N (z4v 7967535) .n σ (z00 (some z5w) K)) (z00 (some z5w) K)) ..) (zb5 fun i j a b c d e f g h=>f40t43 N i j a b c d e f g h K) (by kernel_rfl)
def y21:z0p:=.mk (some zg0) none .n y20
theorem f40t35 N i a b c d e f g h (K:KT ρ):z4w N (z4v 1676079) y21 (f40s8 i a b c d e f g h) (z00 (some z5w) K) =
  z06.Z35 N i a b c d e f g h (fun a b c d e f g h=>K .nrm (z8f a b c d e f g h)) :=
 z05 (fun k=>z06.Z36 N i a b c d e f g h k) (by kernel_rfl) (f40t36 N (K:=z16 (fun σ=>z4w N (z4v 3773231) y20 σ (z00 (some z5w) K)) (z00 (some z5w) K)) ..) (zb5 fun i j a b c d e f g h=>f40t37 N i j a b c d e f g h K) (by kernel_rfl)
def f40p33:z0p:=.mk (some f40l8) none .n y21
theorem f40t33 N a b c d e f g h (K:KT ρ):z4w N (z4v 627503) f40p33 (z8f a b c d e f g h) (z00 (some z5w) K) =
  z06.Z33 N a b c d e f g h (fun a b c d e f g h=>K .nrm (z8f a b c d e f g h)) :=
 z05 (fun k=>z06.Z34 N a b c d e f g h k) (by kernel_rfl) (f40t34 N (K:=z16 (fun σ=>z4w N (z4v 1676079) y21 σ (z00 (some z5w) K)) (z00 (some z5w) K)) ..) (fx9 fun i a b c d e f g h=>f40t35 N i a b c d e f g h K) (by kernel_rfl)
def f40p32:z0p:=.mk (some z5w) none f40p33 .n
theorem f40t32 N a b c d e f g h (K:KT ρ):z4w N (z4v 365359) f40p32 (z8f a b c d e f g h) (z00 (some z5w) K) =
  z06.Z32 N a b c d e f g h (fun a b c d e f g h=>K .nrm (z8f a b c d e f g h)) :=
 z0n (by kernel_rfl) (f40t33 N (K:=z1j 5 (z00 (some z5w) K)) ..) (by kernel_rfl)
theorem f40t44 N a b c d e f g h (K:KT ρ):z4w N (z4v 496431) .n (z8f a b c d e f g h) (z00 (some z5w) K) =
 z06.Z44 N a b c d e f g h (fun a b c d e f g h=>K .nrm (z8f a b c d e f g h)):=by kernel_rfl
def y22:z0p:=.mk (some z5w) none f40p32 .n
theorem f40t31 N a b c d e f g h (K:KT ρ):z4w N (z4v 234287) y22 (z8f a b c d e f g h) (z00 (some z5w) K) =
  z06.Z31 N a b c d e f g h (fun a b c d e f g h=>K .nrm (z8f a b c d e f g h)) :=
 z05 (fun k=>z06.Z32 N a b c d e f g h k) (by kernel_rfl) (f40t32 N (K:=z16 (fun σ=>z4w N (z4v 496431) .n σ (z00 (some z5w) K)) (z00 (some z5w) K)) ..) (fx8 fun a b c d e f g h=>f40t44 N a b c d e f g h K) (by kernel_rfl)
def y23:z0p:=.mk (some z5w) none .n y22
theorem f40t29 N a b g h i c d e f (K:KT ρ):z4w N (z4v 103215) y23 (f40s7 a b g h i c d e f) (z00 (some z5w) K) =
  z06.Z29 N a b g h i c d e f (fun a b g h c d e f=>K .nrm (z8f a b g h c d e f)) (fun a b c d e f=>K (.exit 4) (z72 a b c d e f)) :=
 z05 (fun k=>z06.Z30 N a b g h i c d e f k (fun a b c d e f=>K (.exit 4) (z72 a b c d e f))) (by kernel_rfl) (f40t30 N (K:=z16 (fun σ=>z4w N (z4v 234287) y22 σ (z00 (some z5w) K)) (z00 (some z5w) K)) ..) (fx8 fun a b g h c d e f=>f40t31 N a b g h c d e f K) (by kernel_rfl)
def y24:z0p:=.mk (some f40l7) none .n y23
theorem f40t27 N a b g h c d e f (K:KT ρ):z4w N (z4v 37679) y24 (z8f a b g h c d e f) (z00 (some z5w) K) =
  z06.Z27 N a b g h c d e f (fun a b g h c d e f=>K .nrm (z8f a b g h c d e f)) (fun a b c d e f=>K (.exit 4) (z72 a b c d e f)) :=
 z05 (fun k=>z06.Z28 N a b g h c d e f k) (by kernel_rfl) (f40t28 N (K:=z16 (fun σ=>z4w N (z4v 103215) y23 σ (z00 (some z5w) K)) (z00 (some z5w) K)) ..) (fx9 fun a b g h i c d e f=>f40t29 N a b g h i c d e f K) (by kernel_rfl)
def f40p26:z0p:=.mk none (some z5w) y24 .n
abbrev f40w26 {ρ:Type} (N M:Nat) (σ:St) (K:KT ρ):Option ρ:=z2r (fun σ K=>z4w N (z4v 37679) y24 σ K) z5w M σ K
theorem y1w {ρ:Type} (N:Nat) (K:KT ρ):∀ (M:Nat) (a b g h c d:Int) (e f:LI),f40w26 N M (z8f a b g h c d e f) K =
 z06.Z26L N (fun a b c d e f=>K (.exit 4) (z72 a b c d e f)) M a b g h c d e f
 | 0,_,_,_,_,_,_,_,_=>rfl
 | M + 1,a,b,g,h,c,d,e,f=>z12 (fun k=>z06.Z27 N a b g h c d e f k (fun a b c d e f=>K (.exit 4) (z72 a b c d e f))) (f40t27 N (K:=z16 (fun σ=>f40w26 N M σ K) K) ..) (fx8 fun a b g h c d e f=>y1w N K M a b g h c d e f) (by kernel_rfl)
theorem f40t26 N a b g h c d e f (K:KT ρ):z4w N (z4v 21295) f40p26 (z8f a b g h c d e f) (z00 (some z67) K) =
  z06.Z26 N a b g h c d e f (fun a b c d e f=>K (.exit 4) (z72 a b c d e f)) :=
 z1d (by kernel_rfl) (y1w N (z00 (some z67) K) N a b g h c d e f) (by kernel_rfl)
def y25:z0p:=.mk (some z67) none f40p26 .n
theorem f40t25 N a b g h c d e f (K:KT ρ):z4w N (z4v 13103) y25 (z8f a b g h c d e f) (z00 (some z67) K) =
  z06.Z25 N a b g h c d e f (fun a b c d e f=>K .nrm (z72 a b c d e f)) :=
 z0n (by kernel_rfl) (f40t26 N (K:=z1j 4 (z00 (some z67) K)) ..) (by kernel_rfl)
def f40p23:z0p:=.mk (some z5w) none .n y25
theorem f40t23 N a b c d e f (K:KT ρ):z4w N (z4v 4911) f40p23 (z72 a b c d e f) (z00 (some z67) K) =
  z06.Z23 N a b c d e f (fun a b c d e f=>K .nrm (z72 a b c d e f)) :=
 z05 (fun k=>z06.Z24 N a b c d e f k) (by kernel_rfl) (f40t24 N (K:=z16 (fun σ=>z4w N (z4v 13103) y25 σ (z00 (some z67) K)) (z00 (some z67) K)) ..) (fx8 fun a b g h c d e f=>f40t25 N a b g h c d e f K) (by kernel_rfl)
def f40p22:z0p:=.mk (some z67) none f40p23 .n
theorem f40t22 N a b c d e f (K:KT ρ):z4w N (z4v 2863) f40p22 (z72 a b c d e f) (z00 (some z67) K) =
  z06.Z22 N a b c d e f (fun a b c d e f=>K .nrm (z72 a b c d e f)) :=
 z0n (by kernel_rfl) (f40t23 N (K:=z1j 3 (z00 (some z67) K)) ..) (by kernel_rfl)
theorem f40t45 N a b c d e f (K:KT ρ):z4w N (z4v 3887) .n (z72 a b c d e f) (z00 (some z67) K) =
 z06.Z45 N a b c d e f (fun a b c d e f=>K .nrm (z72 a b c d e f)):=by kernel_rfl
def y26:z0p:=.mk (some z67) none f40p22 .n
theorem f40t21 N a b c d e f (K:KT ρ):z4w N (z4v 1839) y26 (z72 a b c d e f) (z00 (some z67) K) =
  z06.Z21 N a b c d e f (fun a b c d e f=>K .nrm (z72 a b c d e f)) :=
 z05 (fun k=>z06.Z22 N a b c d e f k) (by kernel_rfl) (f40t22 N (K:=z16 (fun σ=>z4w N (z4v 3887) .n σ (z00 (some z67) K)) (z00 (some z67) K)) ..) (fx6 fun a b c d e f=>f40t45 N a b c d e f K) (by kernel_rfl)
def y27:z0p:=.mk (some z67) none .n y26
theorem f40t19 N b c g d e f a (K:KT ρ):z4w N (z4v 815) y27 (f40s5 b c g d e f a) (z00 (some z67) K) =
  z06.Z19 N b c g d e f a (fun b c d e f a=>K .nrm (z72 b c d e f a)) (fun a=>K (.exit 2) (zbj a)) :=
 z05 (fun k=>z06.Z20 N b c g d e f a k (fun a=>K (.exit 2) (zbj a))) (by kernel_rfl) (f40t20 N (K:=z16 (fun σ=>z4w N (z4v 1839) y26 σ (z00 (some z67) K)) (z00 (some z67) K)) ..) (fx6 fun b c d e f a=>f40t21 N b c d e f a K) (by kernel_rfl)
def y28:z0p:=.mk (some f40l5) none .n y27
theorem f40t17 N b c d e f a (K:KT ρ):z4w N (z4v 303) y28 (z72 b c d e f a) (z00 (some z67) K) =
  z06.Z17 N b c d e f a (fun b c d e f a=>K .nrm (z72 b c d e f a)) (fun a=>K (.exit 2) (zbj a)) :=
 z05 (fun k=>z06.Z18 N b c d e f a k) (by kernel_rfl) (f40t18 N (K:=z16 (fun σ=>z4w N (z4v 815) y27 σ (z00 (some z67) K)) (z00 (some z67) K)) ..) (fx7 fun b c g d e f a=>f40t19 N b c g d e f a K) (by kernel_rfl)
def f40p16:z0p:=.mk none (some z67) y28 .n
abbrev f40w16 {ρ:Type} (N M:Nat) (σ:St) (K:KT ρ):Option ρ:=z2r (fun σ K=>z4w N (z4v 303) y28 σ K) z67 M σ K
theorem y1x {ρ:Type} (N:Nat) (K:KT ρ):∀ (M:Nat) (b c d e:Int) (f a:LI),f40w16 N M (z72 b c d e f a) K =
 z06.Z16L N (fun a=>K (.exit 2) (zbj a)) M b c d e f a
 | 0,_,_,_,_,_,_=>rfl
 | M + 1,b,c,d,e,f,a=>z12 (fun k=>z06.Z17 N b c d e f a k (fun a=>K (.exit 2) (zbj a))) (f40t17 N (K:=z16 (fun σ=>f40w16 N M σ K) K) ..) (fx6 fun b c d e f a=>y1x N K M b c d e f a) (by kernel_rfl)
theorem f40t16 N b c d e f a (K:KT ρ):z4w N (z4v 175) f40p16 (z72 b c d e f a) (z00 (some zbk) K) =
  z06.Z16 N b c d e f a (fun a=>K (.exit 2) (zbj a)) :=
 z1d (by kernel_rfl) (y1x N (z00 (some zbk) K) N b c d e f a) (by kernel_rfl)
def y29:z0p:=.mk (some zbk) none f40p16 .n
theorem f40t15 N b c d e f a (K:KT ρ):z4w N (z4v 111) y29 (z72 b c d e f a) (z00 (some zbk) K) =
  z06.Z15 N b c d e f a (fun a=>K .nrm (zbj a)) :=
 z0n (by kernel_rfl) (f40t16 N (K:=z1j 2 (z00 (some zbk) K)) ..) (by kernel_rfl)
def f40p13:z0p:=.mk (some z67) none .n y29
theorem f40t13 N b c d a (K:KT ρ):z4w N (z4v 47) f40p13 (zen b c d a) (z00 (some zbk) K) =
  z06.Z13 N b c d a (fun a=>K .nrm (zbj a)) :=
 z05 (fun k=>z06.Z14 N b c d a k) (by kernel_rfl) (f40t14 N (K:=z16 (fun σ=>z4w N (z4v 111) y29 σ (z00 (some zbk) K)) (z00 (some zbk) K)) ..) (fx6 fun e f b c d a=>f40t15 N e f b c d a K) (by kernel_rfl)
theorem f40t46 N a (K:KT ρ):z4w N (z4v 63) .n (zbj a) (z00 (some za0) K) =
 z06.Z46 N a (fun b=>K .ret (zfe b)):=by kernel_rfl
def y2a:z0p:=.mk (some zbk) none f40p13 .n
theorem f40t12 N b c d a (K:KT ρ):z4w N (z4v 31) y2a (zen b c d a) (z00 (some za0) K) =
  z06.Z12 N b c d a (fun e=>K .ret (zfe e)) :=
 z05 (fun k=>z06.Z13 N b c d a k) (by kernel_rfl) (f40t13 N (K:=z16 (fun σ=>z4w N (z4v 63) .n σ (z00 (some za0) K)) (z00 (some za0) K)) ..) (funext fun a=>f40t46 N a K) (by kernel_rfl)
def f40p6:z0p:=.mk (some zg1) none f40p7 y2a
theorem f40t6 N a b c d (K:KT ρ):z4w N (z4v 15) f40p6 (zen a b c d) (z00 (some za0) K) =
  z06.Z6 N a b c d (fun e=>K .ret (zfe e)) :=
 z05 (fun k=>z06.Z7 N a b c d k) (by kernel_rfl) (f40t7 N (K:=z16 (fun σ=>z4w N (z4v 31) y2a σ (z00 (some za0) K)) (z00 (some za0) K)) ..) (fx4 fun a b c d=>f40t12 N a b c d K) (by kernel_rfl)
def f40p4:z0p:=.mk (some zg1) none .n f40p6
theorem f40t4 N a b c (K:KT ρ):z4w N (z4v 7) f40p4 (zwe a b c) (z00 (some za0) K) =
  z06.Z4 N a b c (fun d=>K .ret (zfe d)) :=
 z05 (fun k=>z06.Z5 N a b c k) (by kernel_rfl) (f40t5 N (K:=z16 (fun σ=>z4w N (z4v 15) f40p6 σ (z00 (some za0) K)) (z00 (some za0) K)) ..) (fx4 fun a b c e=>f40t6 N a b c e K) (by kernel_rfl)
def f40p2:z0p:=.mk (some f40l1) none .n f40p4
theorem f40t2 N a b c (K:KT ρ):z4w N (z4v 3) f40p2 (zwe a b c) (z00 (some za0) K) =
  z06.Z2 N a b c (fun d=>K .ret (zfe d)) :=
 z05 (fun k=>z06.Z3 N a b c k (fun d=>K .ret (zfe d))) (by kernel_rfl) (f40t3 N (K:=z16 (fun σ=>z4w N (z4v 7) f40p4 σ (z00 (some za0) K)) (z00 (some za0) K)) ..) (fx3 fun a b c=>f40t4 N a b c K) (by kernel_rfl)
def f40p0:z0p:=.mk (some f40l1) none .n f40p2
theorem f40t0 N a (K:KT ρ):z4w N (z4v 1) f40p0 (f40s0 a) (z00 (some za0) K) =
  z06.Z0 N a (fun b=>K .ret (zfe b)) :=
 z05 (fun k=>z06.Z1 N a k) (by kernel_rfl) (f40t1 N (K:=z16 (fun σ=>z4w N (z4v 3) f40p2 σ (z00 (some za0) K)) (z00 (some za0) K)) ..) (fx3 fun c d e=>f40t2 N c d e K) (by kernel_rfl)
theorem f40m (N:Nat) (a:MT):z4w N (z4v 1) f40p0 (f40s0 a) (z00 (some za0) (z3o tab zp0 Try.f40.results.toList)) = z06.Z0 N a (fun b=>some ((),(b,()))) :=
 (f40t0 N a (z3o tab zp0 Try.f40.results.toList)).trans (by kernel_rfl)
theorem f40ok (h:z06.Spec):z0r Try.prog 40 e40 :=
 z0k (sig:=zp0) (c:=(z4v 1)) (pl:=f40p0) (je:=(some za0)) (B:=f40B) Try.func40 (by kernel_rfl) (by kernel_rfl) (by kernel_rfl) z34 f40GOk (by kernel_rfl) (by kernel_rfl) (by kernel_rfl) (by kernel_rfl) fun X hb hp=>by
  obtain ⟨a,_⟩:=X
  obtain ⟨N,h⟩:=h a hb.1
  exact ⟨N,(f40m N a).trans (h N (Nat.le_refl N))⟩
theorem e40ok:z0r Try.prog 40 e40:=f40ok z06.ok
end Go.Fw
namespace Go.Fw
variable {ρ:Type}
open Go.Proofs
def zpp:Sig:=⟨[⟨.sl 5 (.int .u8),false,false⟩],[⟨.bool,false,false⟩]⟩
def e10:z2v:=⟨zpp,none,fun X=>((),((z18.g X.1),()))⟩
def f10G:Gm:=z4p (z4p (z4p (z4p (z4p (z4p (z4p (z4p (z4p (z4p z24 25 e25) 26 e26) 27 e27) 30 e30) 40 e40) 43 e43) 46 e46) 47 e47) 48 e48) 49 e49
theorem f10GOk:GOk Try.prog f10G:=((((((((((GOk.nil).add e25ok (by kernel_rfl)).add e26ok (by kernel_rfl)).add e27ok (by kernel_rfl)).add e30ok (by kernel_rfl)).add e40ok (by kernel_rfl)).add e43ok (by kernel_rfl)).add e46ok (by kernel_rfl)).add e47ok (by kernel_rfl)).add e48ok (by kernel_rfl)).add e49ok (by kernel_rfl)
def z8k:z09:=⟨[],[],[],[],[]⟩
def f10s0 (a:List Int):St:=z2j zpp.ps (a,())
def zwg (a:List Int):St:=z1k [(0,.c (.sn 5 (.int .u8) a none))] [] []
def f10l1:z09:=⟨[0],[],[],[],[]⟩
def f10s2 (a b:LI) (c d e:Int):St:=z1k [(3,xb 3),(4,xo 1000256),(5,xi c)] [(3,(30,[yi d,yi e,.own 20000194]))] [(1000256,(⟨3,.int .i64,a,true,false⟩:Row)),(20000194,(⟨3,.int .i64,b,true,false⟩:Row))]
def f10l2:z09:=⟨[3,4,5],[3],[],[],[(⟨false,4,0⟩,1000256),(⟨true,3,2⟩,20000194)]⟩
def f10s3 (a b c:LI) (d:Int) (e:Bool) (f g h i:Int):St:=z1k [(3,xb 3),(4,xo 1000256),(5,xi d),(6,xb 6),(7,xB e)] [(3,(30,[yi f,yi g,.own 20000194])),(6,(30,[yi h,yi i,.own 20000386]))] [(1000256,(⟨3,.int .i64,a,true,false⟩:Row)),(20000194,(⟨3,.int .i64,b,true,false⟩:Row)),(20000386,(⟨3,.int .i64,c,true,false⟩:Row))]
def f10l3:z09:=⟨[3,4,5,6,7],[3,6],[],[],[(⟨false,4,0⟩,1000256),(⟨true,3,2⟩,20000194),(⟨true,6,2⟩,20000386)]⟩
def f10s4 (a b c d:LI) (e:Int) (f g:Bool) (h i j l m o:Int):St:=z1k [(3,xb 3),(4,xo 1000256),(5,xi e),(6,xb 6),(7,xB f),(8,xb 8),(9,xB g)] [(3,(30,[yi h,yi i,.own 20000194])),(6,(30,[yi j,yi l,.own 20000386])),(8,(30,[yi m,yi o,.own 20000514]))] [(1000256,(⟨3,.int .i64,a,true,false⟩:Row)),(20000194,(⟨3,.int .i64,b,true,false⟩:Row)),(20000386,(⟨3,.int .i64,c,true,false⟩:Row)),(20000514,(⟨3,.int .i64,d,true,false⟩:Row))]
def f10l4:z09:=⟨[3,4,5,6,7,8,9],[3,6,8],[],[],[(⟨false,4,0⟩,1000256),(⟨true,3,2⟩,20000194),(⟨true,6,2⟩,20000386),(⟨true,8,2⟩,20000514)]⟩
def f10s5 (a b c d:LI) (e:Int) (f:Bool) (g h i j l m:Int):St:=z1k [(3,xb 3),(4,xo 1000256),(5,xi e),(6,xb 6),(8,xb 8),(9,xB f)] [(3,(30,[yi g,yi h,.own 20000194])),(6,(30,[yi i,yi j,.own 20000386])),(8,(30,[yi l,yi m,.own 20000514]))] [(1000256,(⟨3,.int .i64,a,true,false⟩:Row)),(20000194,(⟨3,.int .i64,b,true,false⟩:Row)),(20000386,(⟨3,.int .i64,c,true,false⟩:Row)),(20000514,(⟨3,.int .i64,d,true,false⟩:Row))]
def f10l5:z09:=⟨[3,4,5,6,8,9],[3,6,8],[],[],[(⟨false,4,0⟩,1000256),(⟨true,3,2⟩,20000194),(⟨true,6,2⟩,20000386),(⟨true,8,2⟩,20000514)]⟩
def zib (a:Bool):St:=z1k [(2,xB a)] [] []
def f10l6:z09:=⟨[2],[],[],[],[]⟩
def f10B:Nat→Option z09:=z1n [(1000000,f10l6)]
abbrev zkp {ρ:Type} (N:Nat) (c:Code) (p:z0p) (σ:St) (K:KT ρ):Option ρ:=z1t f10G tab f10B N c p σ K
def zjd (n:Nat):Code:=z2x 99 (z25 Try.f10) n
theorem f10t1 N a (K:KT ρ):zkp N (zjd 2) .n (f10s0 a) (z00 (some f10l1) K) =
 z18.Z1 N a (fun a=>K .nrm (zwg a)):=by kernel_rfl
theorem f10t3 N a (K:KT ρ):zkp N (zjd 5) .n (zwg a) (z00 (some f10l1) K) =
 z18.Z3 N a (fun a=>K .nrm (zwg a)) (fun b=>K .ret (zib b)):=by kernel_rfl
theorem f10t5 N a (K:KT ρ):zkp N (zjd 11) .n (zwg a) (z00 (some f10l2) K) =
 z18.Z5 N a (fun b c d e f=>K .nrm (f10s2 b c d e f)):=by kernel_rfl
theorem f10t7 N a b c d e (K:KT ρ):zkp N (zjd 23) .n (f10s2 a b c d e) (z00 (some f10l3) K) =
 z18.Z7 N a b c d e (fun a b f c g d e h i=>K .nrm (f10s3 a b f c g d e h i)):=by kernel_rfl
theorem f10t9 N a b c d e f g h i (K:KT ρ):zkp N (zjd 47) .n (f10s3 a b c d e f g h i) (z00 (some f10l4) K) =
 z18.Z9 N a b c d e f g h i (fun a b c j d e l f g h i m o=>K .nrm (f10s4 a b c j d e l f g h i m o)):=by kernel_rfl
theorem f10t11 N a b c d e o f g h i j l m (K:KT ρ):zkp N (zjd 95) .n (f10s4 a b c d e o f g h i j l m) (z00 (some f10l5) K) =
 z18.Z11 N a b c d e o f g h i j l m (fun a b c d e f g h i j l m=>K .nrm (f10s5 a b c d e f g h i j l m)) (fun p=>K .ret (zib p)):=by kernel_rfl
theorem f10t12 N a b c d e f g h i j l m (K:KT ρ):zkp N (zjd 127) .n (f10s5 a b c d e f g h i j l m) (z00 (some z8k) K) =
 z18.Z12 N a b c d e f g h i j l m (fun o=>K .ret (zib o)):=by kernel_rfl
def y5i:z0p:=.mk (some f10l5) none .n .n
theorem f10t10 N a b c d e o f g h i j l m (K:KT ρ):zkp N (zjd 63) y5i (f10s4 a b c d e o f g h i j l m) (z00 (some z8k) K) =
  z18.Z10 N a b c d e o f g h i j l m (fun p=>K .ret (zib p)) :=
 z05 (fun k=>z18.Z11 N a b c d e o f g h i j l m k (fun p=>K .ret (zib p))) (by kernel_rfl) (f10t11 N (K:=z16 (fun σ=>zkp N (zjd 127) .n σ (z00 (some z8k) K)) (z00 (some z8k) K)) ..) (ztk fun a b c d e f g h i j l m=>f10t12 N a b c d e f g h i j l m K) (by kernel_rfl)
def f10p8:z0p:=.mk (some f10l4) none .n y5i
theorem f10t8 N a b c d e f g h i (K:KT ρ):zkp N (zjd 31) f10p8 (f10s3 a b c d e f g h i) (z00 (some z8k) K) =
  z18.Z8 N a b c d e f g h i (fun j=>K .ret (zib j)) :=
 z05 (fun k=>z18.Z9 N a b c d e f g h i k) (by kernel_rfl) (f10t9 N (K:=z16 (fun σ=>zkp N (zjd 63) y5i σ (z00 (some z8k) K)) (z00 (some z8k) K)) ..) (zvu fun a b c l d e m f g h i o p=>f10t10 N a b c l d e m f g h i o p K) (by kernel_rfl)
def f10p6:z0p:=.mk (some f10l3) none .n f10p8
theorem f10t6 N a b c d e (K:KT ρ):zkp N (zjd 15) f10p6 (f10s2 a b c d e) (z00 (some z8k) K) =
  z18.Z6 N a b c d e (fun f=>K .ret (zib f)) :=
 z05 (fun k=>z18.Z7 N a b c d e k) (by kernel_rfl) (f10t7 N (K:=z16 (fun σ=>zkp N (zjd 31) f10p8 σ (z00 (some z8k) K)) (z00 (some z8k) K)) ..) (fx9 fun a b g c h d e i j=>f10t8 N a b g c h d e i j K) (by kernel_rfl)
def f10p4:z0p:=.mk (some f10l2) none .n f10p6
theorem f10t4 N a (K:KT ρ):zkp N (zjd 7) f10p4 (zwg a) (z00 (some z8k) K) =
  z18.Z4 N a (fun b=>K .ret (zib b)) :=
 z05 (fun k=>z18.Z5 N a k) (by kernel_rfl) (f10t5 N (K:=z16 (fun σ=>zkp N (zjd 15) f10p6 σ (z00 (some z8k) K)) (z00 (some z8k) K)) ..) (fx5 fun c d e f g=>f10t6 N c d e f g K) (by kernel_rfl)
def f10p2:z0p:=.mk (some f10l1) none .n f10p4
theorem f10t2 N a (K:KT ρ):zkp N (zjd 3) f10p2 (zwg a) (z00 (some z8k) K) =
  z18.Z2 N a (fun b=>K .ret (zib b)) :=
 z05 (fun k=>z18.Z3 N a k (fun b=>K .ret (zib b))) (by kernel_rfl) (f10t3 N (K:=z16 (fun σ=>zkp N (zjd 7) f10p4 σ (z00 (some z8k) K)) (z00 (some z8k) K)) ..) (funext fun a=>f10t4 N a K) (by kernel_rfl)
def f10p0:z0p:=.mk (some f10l1) none .n f10p2
theorem f10t0 N a (K:KT ρ):zkp N (zjd 1) f10p0 (f10s0 a) (z00 (some z8k) K) =
  z18.Z0 N a (fun b=>K .ret (zib b)) :=
 z05 (fun k=>z18.Z1 N a k) (by kernel_rfl) (f10t1 N (K:=z16 (fun σ=>zkp N (zjd 3) f10p2 σ (z00 (some z8k) K)) (z00 (some z8k) K)) ..) (funext fun a=>f10t2 N a K) (by kernel_rfl)
theorem f10m (N:Nat) (a:List Int):zkp N (zjd 1) f10p0 (f10s0 a) (z00 (some z8k) (z3o tab zpp Try.f10.results.toList)) = z18.Z0 N a (fun b=>some ((),(b,()))) :=
 (f10t0 N a (z3o tab zpp Try.f10.results.toList)).trans (by kernel_rfl)
theorem f10ok (h:z18.Spec):z0r Try.prog 10 e10 :=
 z0k (sig:=zpp) (c:=(zjd 1)) (pl:=f10p0) (je:=(some z8k)) (B:=f10B) Try.func10 (by kernel_rfl) (by kernel_rfl) (by kernel_rfl) z34 f10GOk (by kernel_rfl) (by kernel_rfl) (by kernel_rfl) (by kernel_rfl) fun X hb hp=>by
  obtain ⟨a,_⟩:=X
  obtain ⟨N,h⟩:=h a hb.1
  exact ⟨N,(f10m N a).trans (h N (Nat.le_refl N))⟩
theorem e10ok:z0r Try.prog 10 e10:=f10ok z18.ok
end Go.Fw
