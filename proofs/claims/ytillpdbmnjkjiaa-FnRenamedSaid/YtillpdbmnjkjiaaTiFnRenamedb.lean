/- The ties: the program's text comes to the plain functions. Nothing is assumed. -/
import Derived.Test.YtillpdbmnjkjiaaPuFnRenamedb
import Derived.Test.YtillpdbmnjkjiaaTiFnRenameda
import Derived.Test.YtillpdbmnjkjiaaPuFnRenamedc
import Derived.Test.YtillpdbmnjkjiaaFza
import Derived.Test.YtillpdbmnjkjiaaChecked
noncomputable section
set_option linter.unusedVariables false
set_option linter.unusedSimpArgs false
set_option maxRecDepth 100000
namespace Go.Fw
variable {ρ:Type}
open Go.Proofs
def f66k:zey:=⟨113,[(5,.int .u8)],.pair (.int .i64) (.int .i64)⟩
def y1f:List PT:=[⟨.pair (.int .i64) (.pair (.int .i64) (.sl 3 (.int .i64))),true,false⟩]
def f66rs:List PT:=[⟨.pair (.int .i64) (.pair (.int .i64) (.sl 3 (.int .i64))),true,false⟩]
def e66:z5q:=⟨f66k,y1f,true,f66rs,(some fun X=>z0e.P X.1.1.1 X.1.2 X.2.1),fun X=>((z0e.g X.1.1.1 X.1.2 X.2.1).1,((),((z0e.g X.1.1.1 X.1.2 X.2.1).2,())))⟩
def f66G:Gm:=z4p (addV z24 69 e69) 102 e102
theorem f66GOk:GOk Try.prog f66G:=((GOk.nil).addV zs7 (by kernel_rfl)).add y6b (by kernel_rfl)
def zck:z09:=⟨[],[],[],[],[]⟩
def f66s0 (u0:Value) (b0:List Int) (r0:Int × Int) (a:MT):St:=z3v f66k y1f [u0] (((b0,()),r0),(a,()))
def f66s1 (u0:Value) (a:List Int) (b c d e:Int) (f:LI) (g h:Int):St:=z1k [(0,xb 100000),(3,xb 3),(4,xb 4),(100000,xb 100000)] [(100000,(113,[.bor u0 5 (.int .u8) a,yi b,yi c])),(3,(30,[yi d,yi e,.sn 3 tI f none])),(4,(30,[yi g,yi h,.nil]))] []
def f66l1:z09:=⟨[0,3,4,100000],[100000,3,4],[],[],[]⟩
def f66s2 (u0:Value) (a:LI) (b:List Int) (c d e f:Int) (g:LI) (h i j l:Int):St:=z1k [(0,xb 100000),(3,xb 3),(4,xb 4),(5,xb 5),(100000,xb 100000)] [(100000,(113,[.bor u0 5 (.int .u8) b,yi c,yi d])),(3,(30,[yi e,yi f,.sn 3 tI g none])),(4,(30,[yi h,yi i,.nil])),(5,(30,[yi j,yi l,.own 20000322]))] [(20000322,(⟨3,.int .i64,a,true,false⟩:Row))]
def f66l2:z09:=⟨[0,3,4,5,100000],[100000,3,4,5],[],[],[(⟨true,5,2⟩,20000322)]⟩
def f66s3 (u0:Value) (a:LI) (b:Int) (c:List Int) (d e f g:Int) (h:LI) (i j l m:Int):St:=z1k [(0,xb 100000),(3,xb 3),(4,xb 4),(5,xb 5),(6,xi b),(100000,xb 100000)] [(100000,(113,[.bor u0 5 (.int .u8) c,yi d,yi e])),(3,(30,[yi f,yi g,.sn 3 tI h none])),(4,(30,[yi i,yi j,.nil])),(5,(30,[yi l,yi m,.own 20000322]))] [(20000322,(⟨3,.int .i64,a,true,false⟩:Row))]
def f66l3:z09:=⟨[0,3,4,5,6,100000],[100000,3,4,5],[],[],[(⟨true,5,2⟩,20000322)]⟩
def z71 (u0:Value) (a:LI) (b c:Int) (d:List Int) (e f g h:Int) (i:LI) (j l m o:Int):St:=z1k [(0,xb 100000),(3,xb 3),(4,xb 4),(5,xb 5),(6,xi b),(7,xi c),(100000,xb 100000)] [(100000,(113,[.bor u0 5 (.int .u8) d,yi e,yi f])),(3,(30,[yi g,yi h,.sn 3 tI i none])),(4,(30,[yi j,yi l,.nil])),(5,(30,[yi m,yi o,.own 20000322]))] [(20000322,(⟨3,.int .i64,a,true,false⟩:Row))]
def z5n:z09:=⟨[0,3,4,5,6,7,100000],[100000,3,4,5],[],[],[(⟨true,5,2⟩,20000322)]⟩
def zw7 (u0:Value) (a:LI) (b c d:Int) (e:List Int) (f g h i:Int) (j:LI) (l m o p:Int):St:=z1k [(0,xb 100000),(3,xb 3),(4,xb 4),(5,xb 5),(6,xi b),(7,xi c),(8,xi d),(100000,xb 100000)] [(100000,(113,[.bor u0 5 (.int .u8) e,yi f,yi g])),(3,(30,[yi h,yi i,.sn 3 tI j none])),(4,(30,[yi l,yi m,.nil])),(5,(30,[yi o,yi p,.own 20000322]))] [(20000322,(⟨3,.int .i64,a,true,false⟩:Row))]
def y1j:z09:=⟨[0,3,4,5,6,7,8,100000],[100000,3,4,5],[],[],[(⟨true,5,2⟩,20000322)]⟩
def zm4 (u0:Value) (a:LI) (b c d e:Int) (f:List Int) (g h:Int):St:=z1k [(4,xb 4),(5,xb 5),(100000,xb 100000)] [(4,(30,[yi b,yi c,.nil])),(5,(30,[yi d,yi e,.own 20000322])),(100000,(113,[.bor u0 5 (.int .u8) f,yi g,yi h]))] [(20000322,(⟨3,.int .i64,a,true,false⟩:Row))]
def zj9:z09:=⟨[4,5,100000],[4,5,100000],[],[],[(⟨true,5,2⟩,20000322)]⟩
def y1e (u0:Value) (a:LI) (b c:Int) (d:List Int) (e f:Int):St:=z1k [(4,xb 4),(100000,xb 100000)] [(4,(30,[yi b,yi c,.own 20000258])),(100000,(113,[.bor u0 5 (.int .u8) d,yi e,yi f]))] [(20000258,(⟨3,.int .i64,a,true,false⟩:Row))]
def f66l7:z09:=⟨[4,100000],[4,100000],[],[],[(⟨true,4,2⟩,20000258)]⟩
def f66B:Nat→Option z09:=z1n [(2,z5n),(1,z5n),(0,zj9),(1000000,f66l7)]
abbrev za4 {ρ:Type} (N:Nat) (c:Code) (p:z0p) (σ:St) (K:KT ρ):Option ρ:=z1t f66G tab f66B N c p σ K
def z9z (n:Nat):Code:=z2x 99 (z25 Try.f66) n
theorem f66t1 N u0 b0 r0 a (K:KT ρ):za4 N (z9z 2) .n (f66s0 u0 b0 r0 a) (z00 (some f66l1) K) =
 z0e.Z1 N b0 r0 a (fun b c d e f g h i=>K .nrm (f66s1 u0 b c d e f g h i)):=by kernel_rfl
theorem f66t3 N u0 a b c d e f g h (K:KT ρ):za4 N (z9z 5) .n (f66s1 u0 a b c d e f g h) (z00 (some f66l2) K) =
 z0e.Z3 N a b c d e f g h (fun i a b c d e f g h j l=>K .nrm (f66s2 u0 i a b c d e f g h j l)):=by kernel_rfl
theorem f66t5 N u0 a b c d e f g h i j l (K:KT ρ):za4 N (z9z 11) .n (f66s2 u0 a b c d e f g h i j l) (z00 (some f66l3) K) =
 z0e.Z5 N a b c d e f g h i j l (fun a m b c d e f g h i j l=>K .nrm (f66s3 u0 a m b c d e f g h i j l)):=by kernel_rfl
theorem f66t8 N u0 a b c d e f g h i j l m (K:KT ρ):za4 N (z9z 39) .n (f66s3 u0 a b c d e f g h i j l m) (z00 (some z5n) K) =
 z0e.Z8 N a b c d e f g h i j l m (fun a b o c d e f g h i j l m=>K .nrm (z71 u0 a b o c d e f g h i j l m)):=by kernel_rfl
theorem f66t12 N u0 a i j b c d l m o e f g h (K:KT ρ):za4 N (z9z 279) .n (z71 u0 a i j b c d l m o e f g h) (z00 (some z5n) K) =
 z0e.Z12 N a i j b c d l m o e f g h (fun a i j b c d l m o e f g h=>K .nrm (z71 u0 a i j b c d l m o e f g h)) (fun a e f g h b c d=>K (.exit 0) (zm4 u0 a e f g h b c d)):=by kernel_rfl
theorem f66t17 N u0 a b c d e f g h i j l m o (K:KT ρ):za4 N (z9z 4247) .n (z71 u0 a b c d e f g h i j l m o) (z00 (some y1j) K) =
 z0e.Z17 N a b c d e f g h i j l m o (fun a b c p d e f g h i j l m o=>K .nrm (zw7 u0 a b c p d e f g h i j l m o)):=by kernel_rfl
theorem f66t20 N u0 a b c p d e f g h i j l m o (K:KT ρ):za4 N (z9z 18583) .n (zw7 u0 a b c p d e f g h i j l m o) (z00 (some y1j) K) =
 z0e.Z20 N a b c p d e f g h i j l m o (fun a b c p d e f g h i j l m o=>K .nrm (zw7 u0 a b c p d e f g h i j l m o)) (fun a b c d e f g h i j l m o=>K (.exit 2) (z71 u0 a b c d e f g h i j l m o)):=by kernel_rfl
def f66p19:z0p:=.mk none (some y1j) .n .n
abbrev f66w19 {ρ:Type} (N M:Nat) (σ:St) (K:KT ρ):Option ρ:=z2r (fun σ K=>za4 N (z9z 18583) .n σ K) y1j M σ K
theorem y1c {ρ:Type} (N:Nat) (u0:Value) (K:KT ρ):∀ (M:Nat) (a:LI) (b c p:Int) (d:List Int) (e f g h:Int) (i:LI) (j l m o:Int),f66w19 N M (zw7 u0 a b c p d e f g h i j l m o) K =
 z0e.Z19L N (fun a b c d e f g h i j l m o=>K (.exit 2) (z71 u0 a b c d e f g h i j l m o)) M a b c p d e f g h i j l m o
 | 0,_,_,_,_,_,_,_,_,_,_,_,_,_,_=>rfl
 | M + 1,a,b,c,p,d,e,f,g,h,i,j,l,m,o=>z12 (fun k=>z0e.Z20 N a b c p d e f g h i j l m o k (fun a b c d e f g h i j l m o=>K (.exit 2) (z71 u0 a b c d e f g h i j l m o))) (f66t20 N u0 (K:=z16 (fun σ=>f66w19 N M σ K) K) ..) (fx14 fun a b c p d e f g h i j l m o=>y1c N u0 K M a b c p d e f g h i j l m o) (by kernel_rfl)
theorem f66t19 N u0 a b c p d e f g h i j l m o (K:KT ρ):za4 N (z9z 10391) f66p19 (zw7 u0 a b c p d e f g h i j l m o) (z00 (some z5n) K) =
  z0e.Z19 N a b c p d e f g h i j l m o (fun a b c d e f g h i j l m o=>K (.exit 2) (z71 u0 a b c d e f g h i j l m o)) :=
 z1d (by kernel_rfl) (y1c N u0 (z00 (some z5n) K) N a b c p d e f g h i j l m o) (by kernel_rfl)
def y1g:z0p:=.mk (some z5n) none f66p19 .n
theorem f66t18 N u0 a b c p d e f g h i j l m o (K:KT ρ):za4 N (z9z 6295) y1g (zw7 u0 a b c p d e f g h i j l m o) (z00 (some z5n) K) =
  z0e.Z18 N a b c p d e f g h i j l m o (fun a b c d e f g h i j l m o=>K .nrm (z71 u0 a b c d e f g h i j l m o)) :=
 z0n (by kernel_rfl) (f66t19 N u0 (K:=z1j 2 (z00 (some z5n) K)) ..) (by kernel_rfl)
def f66p16:z0p:=.mk (some y1j) none .n y1g
theorem f66t16 N u0 a b c d e f g h i j l m o (K:KT ρ):za4 N (z9z 2199) f66p16 (z71 u0 a b c d e f g h i j l m o) (z00 (some z5n) K) =
  z0e.Z16 N a b c d e f g h i j l m o (fun a b c d e f g h i j l m o=>K .nrm (z71 u0 a b c d e f g h i j l m o)) :=
 z05 (fun k=>z0e.Z17 N a b c d e f g h i j l m o k) (by kernel_rfl) (f66t17 N u0 (K:=z16 (fun σ=>za4 N (z9z 6295) y1g σ (z00 (some z5n) K)) (z00 (some z5n) K)) ..) (fx14 fun a b c p d e f g h i j l m o=>f66t18 N u0 a b c p d e f g h i j l m o K) (by kernel_rfl)
theorem f66t21 N u0 a b c d e f g h i j l m o (K:KT ρ):za4 N (z9z 3223) .n (z71 u0 a b c d e f g h i j l m o) (z00 (some z5n) K) =
 z0e.Z21 N a b c d e f g h i j l m o (fun a b c d e f g h i j l m o=>K .nrm (z71 u0 a b c d e f g h i j l m o)):=by kernel_rfl
def f66p15:z0p:=.mk (some z5n) none f66p16 .n
theorem f66t15 N u0 a b c d e f g h i j l m o (K:KT ρ):za4 N (z9z 1175) f66p15 (z71 u0 a b c d e f g h i j l m o) (z00 (some z5n) K) =
  z0e.Z15 N a b c d e f g h i j l m o (fun a b c d e f g h i j l m o=>K .nrm (z71 u0 a b c d e f g h i j l m o)) :=
 z05 (fun k=>z0e.Z16 N a b c d e f g h i j l m o k) (by kernel_rfl) (f66t16 N u0 (K:=z16 (fun σ=>za4 N (z9z 3223) .n σ (z00 (some z5n) K)) (z00 (some z5n) K)) ..) (zvu fun a b c d e f g h i j l m o=>f66t21 N u0 a b c d e f g h i j l m o K) (by kernel_rfl)
def f66p14:z0p:=.mk (some z5n) none f66p15 .n
theorem f66t14 N u0 a b c d e f g h i j l m o (K:KT ρ):za4 N (z9z 663) f66p14 (z71 u0 a b c d e f g h i j l m o) (z00 (some z5n) K) =
  z0e.Z14 N a b c d e f g h i j l m o (fun a b c d e f g h i j l m o=>K .nrm (z71 u0 a b c d e f g h i j l m o)) :=
 z0n (by kernel_rfl) (f66t15 N u0 (K:=z1j 1 (z00 (some z5n) K)) ..) (by kernel_rfl)
theorem f66t22 N u0 a b c d e f g h i j l m o (K:KT ρ):za4 N (z9z 919) .n (z71 u0 a b c d e f g h i j l m o) (z00 (some z5n) K) =
 z0e.Z22 N a b c d e f g h i j l m o (fun a b c d e f g h i j l m o=>K .nrm (z71 u0 a b c d e f g h i j l m o)):=by kernel_rfl
def y1h:z0p:=.mk (some z5n) none f66p14 .n
theorem f66t13 N u0 a b c d e f g h i j l m o (K:KT ρ):za4 N (z9z 407) y1h (z71 u0 a b c d e f g h i j l m o) (z00 (some z5n) K) =
  z0e.Z13 N a b c d e f g h i j l m o (fun a b c d e f g h i j l m o=>K .nrm (z71 u0 a b c d e f g h i j l m o)) :=
 z05 (fun k=>z0e.Z14 N a b c d e f g h i j l m o k) (by kernel_rfl) (f66t14 N u0 (K:=z16 (fun σ=>za4 N (z9z 919) .n σ (z00 (some z5n) K)) (z00 (some z5n) K)) ..) (zvu fun a b c d e f g h i j l m o=>f66t22 N u0 a b c d e f g h i j l m o K) (by kernel_rfl)
def y1i:z0p:=.mk (some z5n) none .n y1h
theorem f66t11 N u0 a i j b c d l m o e f g h (K:KT ρ):za4 N (z9z 151) y1i (z71 u0 a i j b c d l m o e f g h) (z00 (some z5n) K) =
  z0e.Z11 N a i j b c d l m o e f g h (fun a i j b c d l m o e f g h=>K .nrm (z71 u0 a i j b c d l m o e f g h)) (fun a e f g h b c d=>K (.exit 0) (zm4 u0 a e f g h b c d)) :=
 z05 (fun k=>z0e.Z12 N a i j b c d l m o e f g h k (fun a e f g h b c d=>K (.exit 0) (zm4 u0 a e f g h b c d))) (by kernel_rfl) (f66t12 N u0 (K:=z16 (fun σ=>za4 N (z9z 407) y1h σ (z00 (some z5n) K)) (z00 (some z5n) K)) ..) (zvu fun a i j b c d l m o e f g h=>f66t13 N u0 a i j b c d l m o e f g h K) (by kernel_rfl)
def f66p10:z0p:=.mk none (some z5n) y1i .n
abbrev f66w10 {ρ:Type} (N M:Nat) (σ:St) (K:KT ρ):Option ρ:=z2r (fun σ K=>za4 N (z9z 151) y1i σ K) z5n M σ K
theorem y1d {ρ:Type} (N:Nat) (u0:Value) (K:KT ρ):∀ (M:Nat) (a:LI) (i j:Int) (b:List Int) (c d l m:Int) (o:LI) (e f g h:Int),f66w10 N M (z71 u0 a i j b c d l m o e f g h) K =
 z0e.Z10L N (fun a e f g h b c d=>K (.exit 0) (zm4 u0 a e f g h b c d)) M a i j b c d l m o e f g h
 | 0,_,_,_,_,_,_,_,_,_,_,_,_,_=>rfl
 | M + 1,a,i,j,b,c,d,l,m,o,e,f,g,h=>z12 (fun k=>z0e.Z11 N a i j b c d l m o e f g h k (fun a e f g h b c d=>K (.exit 0) (zm4 u0 a e f g h b c d))) (f66t11 N u0 (K:=z16 (fun σ=>f66w10 N M σ K) K) ..) (zvu fun a i j b c d l m o e f g h=>y1d N u0 K M a i j b c d l m o e f g h) (by kernel_rfl)
theorem f66t10 N u0 a i j b c d l m o e f g h (K:KT ρ):za4 N (z9z 87) f66p10 (z71 u0 a i j b c d l m o e f g h) (z00 (some zj9) K) =
  z0e.Z10 N a i j b c d l m o e f g h (fun a e f g h b c d=>K (.exit 0) (zm4 u0 a e f g h b c d)) :=
 z1d (by kernel_rfl) (y1d N u0 (z00 (some zj9) K) N a i j b c d l m o e f g h) (by kernel_rfl)
def f66p9:z0p:=.mk (some zj9) none f66p10 .n
theorem f66t9 N u0 a i j b c d l m o e f g h (K:KT ρ):za4 N (z9z 55) f66p9 (z71 u0 a i j b c d l m o e f g h) (z00 (some zj9) K) =
  z0e.Z9 N a i j b c d l m o e f g h (fun a e f g h b c d=>K .nrm (zm4 u0 a e f g h b c d)) :=
 z0n (by kernel_rfl) (f66t10 N u0 (K:=z1j 0 (z00 (some zj9) K)) ..) (by kernel_rfl)
def f66p7:z0p:=.mk (some z5n) none .n f66p9
theorem f66t7 N u0 a i b c d j l m e f g h (K:KT ρ):za4 N (z9z 23) f66p7 (f66s3 u0 a i b c d j l m e f g h) (z00 (some zj9) K) =
  z0e.Z7 N a i b c d j l m e f g h (fun a e f g h b c d=>K .nrm (zm4 u0 a e f g h b c d)) :=
 z05 (fun k=>z0e.Z8 N a i b c d j l m e f g h k) (by kernel_rfl) (f66t8 N u0 (K:=z16 (fun σ=>za4 N (z9z 55) f66p9 σ (z00 (some zj9) K)) (z00 (some zj9) K)) ..) (zvu fun a i o b c d j l m e f g h=>f66t9 N u0 a i o b c d j l m e f g h K) (by kernel_rfl)
theorem f66t23 N u0 f a b g h c d e (K:KT ρ):za4 N (z9z 31) .n (zm4 u0 f a b g h c d e) (z00 (some zck) K) =
 z0e.Z23 N f a b g h c d e (fun i a b c d e=>K .ret (y1e u0 i a b c d e)):=by kernel_rfl
def f66p6:z0p:=.mk (some zj9) none f66p7 .n
theorem f66t6 N u0 f i a b c j l m d e g h (K:KT ρ):za4 N (z9z 15) f66p6 (f66s3 u0 f i a b c j l m d e g h) (z00 (some zck) K) =
  z0e.Z6 N f i a b c j l m d e g h (fun o d e a b c=>K .ret (y1e u0 o d e a b c)) :=
 z05 (fun k=>z0e.Z7 N f i a b c j l m d e g h k) (by kernel_rfl) (f66t7 N u0 (K:=z16 (fun σ=>za4 N (z9z 31) .n σ (z00 (some zck) K)) (z00 (some zck) K)) ..) (fx8 fun f d e g h a b c=>f66t23 N u0 f d e g h a b c K) (by kernel_rfl)
def f66p4:z0p:=.mk (some f66l3) none .n f66p6
theorem f66t4 N u0 f a b c g h i d e j l (K:KT ρ):za4 N (z9z 7) f66p4 (f66s2 u0 f a b c g h i d e j l) (z00 (some zck) K) =
  z0e.Z4 N f a b c g h i d e j l (fun m d e a b c=>K .ret (y1e u0 m d e a b c)) :=
 z05 (fun k=>z0e.Z5 N f a b c g h i d e j l k) (by kernel_rfl) (f66t5 N u0 (K:=z16 (fun σ=>za4 N (z9z 15) f66p6 σ (z00 (some zck) K)) (z00 (some zck) K)) ..) (ztk fun f o a b c g h i d e j l=>f66t6 N u0 f o a b c g h i d e j l K) (by kernel_rfl)
def f66p2:z0p:=.mk (some f66l2) none .n f66p4
theorem f66t2 N u0 a b c f g h d e (K:KT ρ):za4 N (z9z 3) f66p2 (f66s1 u0 a b c f g h d e) (z00 (some zck) K) =
  z0e.Z2 N a b c f g h d e (fun i d e a b c=>K .ret (y1e u0 i d e a b c)) :=
 z05 (fun k=>z0e.Z3 N a b c f g h d e k) (by kernel_rfl) (f66t3 N u0 (K:=z16 (fun σ=>za4 N (z9z 7) f66p4 σ (z00 (some zck) K)) (z00 (some zck) K)) ..) (zk5 fun j a b c f g h d e l m=>f66t4 N u0 j a b c f g h d e l m K) (by kernel_rfl)
def f66p0:z0p:=.mk (some f66l1) none .n f66p2
theorem f66t0 N u0 b0 r0 a (K:KT ρ):za4 N (z9z 1) f66p0 (f66s0 u0 b0 r0 a) (z00 (some zck) K) =
  z0e.Z0 N b0 r0 a (fun g b c d e f=>K .ret (y1e u0 g b c d e f)) :=
 z05 (fun k=>z0e.Z1 N b0 r0 a k) (by kernel_rfl) (f66t1 N u0 (K:=z16 (fun σ=>za4 N (z9z 3) f66p2 σ (z00 (some zck) K)) (z00 (some zck) K)) ..) (fx8 fun d e f h i j b c=>f66t2 N u0 d e f h i j b c K) (by kernel_rfl)
theorem f66m (N:Nat) (u0:Value) (b0:List Int) (r0:Int × Int) (a:MT):za4 N (z9z 1) f66p0 (f66s0 u0 b0 r0 a) (z00 (some zck) (z7q tab f66k y1f true f66rs Try.f66.results.toList)) = z0e.Z0 N b0 r0 a (fun b c d g e f=>some ([u0],((e,f),((),((c,(d,b)),()))))) :=
 (f66t0 N u0 b0 r0 a (z7q tab f66k y1f true f66rs Try.f66.results.toList)).trans (by kernel_rfl)
theorem f66ok (h:z0e.Spec):z2u Try.prog 66 e66 :=
 z30 (k:=f66k) (ps:=y1f) (rs:=f66rs) (back:=true) (c:=(z9z 1)) (pl:=f66p0) (je:=(some zck)) (B:=f66B) Try.func66 (by kernel_rfl) (by kernel_rfl) (by kernel_rfl) z34 f66GOk (by kernel_rfl) (by kernel_rfl) (by kernel_rfl) fun lit X hl hb1 hb2 hp=>by
  obtain ⟨⟨⟨b0,_⟩,r0⟩,a,_⟩:=X
  match lit,hl with
  | [u0],_ =>
   obtain ⟨N,h⟩:=h [u0] b0 r0 a hb1.1 hb2.1 hp
   exact ⟨N,(f66m N u0 b0 r0 a).trans (h N (Nat.le_refl N))⟩
theorem e66ok:z2u Try.prog 66 e66:=f66ok z0e.ok
end Go.Fw
namespace Go.Fw
variable {ρ:Type}
open Go.Proofs
def zp8:Sig:=⟨[⟨.sl 5 (.int .u8),false,false⟩],[⟨.pair (.int .i64) (.pair (.int .i64) (.sl 3 (.int .i64))),true,false⟩,⟨.sl 3 (.int .i64),false,false⟩,⟨.int .i64,false,false⟩]⟩
def e26:z2v:=⟨zp8,none,fun X=>((),((z0x.g X.1).1,((z0x.g X.1).2.1,((z0x.g X.1).2.2,()))))⟩
def f26G:Gm:=addV (addV (addV (addV (addN z24 65 e65) 66 e66) 67 e67) 68 e68) 69 e69
theorem f26GOk:GOk Try.prog f26G:=(((((GOk.nil).addN e65ok).addV e66ok (by kernel_rfl)).addV e67ok (by kernel_rfl)).addV e68ok (by kernel_rfl)).addV zs7 (by kernel_rfl)
def f26lE:z09:=⟨[],[],[],[],[]⟩
def f26s0 (a:List Int):St:=z2j zp8.ps (a,())
def f26s1 (a b:LI) (c d e:Int):St:=z1k [(2,xb 2),(3,xo 1000192),(4,xi c)] [(2,(30,[yi d,yi e,.own 20000130]))] [(1000192,(⟨3,.int .i64,a,true,false⟩:Row)),(20000130,(⟨3,.int .i64,b,true,false⟩:Row))]
def f26l1:z09:=⟨[2,3,4],[2],[],[],[(⟨false,3,0⟩,1000192),(⟨true,2,2⟩,20000130)]⟩
def f26B:Nat→Option z09:=z1n [(1000000,f26l1)]
abbrev f26i {ρ:Type} (N:Nat) (c:Code) (p:z0p) (σ:St) (K:KT ρ):Option ρ:=z1t f26G tab f26B N c p σ K
def f26c (n:Nat):Code:=z2x 99 (z25 Try.f26) n
theorem f26t0 N a (K:KT ρ):f26i N (f26c 1) .n (f26s0 a) (z00 (some f26lE) K) =
 z0x.Z0 N a (fun b c d e f=>K .ret (f26s1 b c d e f)):=by kernel_rfl
theorem f26m (N:Nat) (a:List Int):f26i N (f26c 1) .n (f26s0 a) (z00 (some f26lE) (z3o tab zp8 Try.f26.results.toList)) = z0x.Z0 N a (fun b c d e f=>some ((),((e,(f,c)),(b,(d,()))))) :=
 (f26t0 N a (z3o tab zp8 Try.f26.results.toList)).trans (by kernel_rfl)
theorem f26ok (h:z0x.Spec):z0r Try.prog 26 e26 :=
 z0k (sig:=zp8) (c:=(f26c 1)) (pl:=.n) (je:=(some f26lE)) (B:=f26B) Try.func26 (by kernel_rfl) (by kernel_rfl) (by kernel_rfl) z34 f26GOk (by kernel_rfl) (by kernel_rfl) (by kernel_rfl) (by kernel_rfl) fun X hb hp=>by
  obtain ⟨a,_⟩:=X
  obtain ⟨N,h⟩:=h a hb.1
  exact ⟨N,(f26m N a).trans (h N (Nat.le_refl N))⟩
theorem e26ok:z0r Try.prog 26 e26:=f26ok z0x.ok
end Go.Fw
namespace Go.Fw
variable {ρ:Type}
open Go.Proofs
def zor:Sig:=⟨[⟨.int .i64,false,false⟩,⟨.int .i64,false,false⟩,⟨.int .i64,false,false⟩],[⟨.bool,false,false⟩]⟩
def e70:z2v:=⟨zor,none,fun X=>((),((z2o.g X.1 X.2.1 X.2.2.1),()))⟩
def f70G:Gm:=z24
theorem f70GOk:GOk Try.prog f70G:=GOk.nil
def f70lE:z09:=⟨[],[],[],[],[]⟩
def f70s0 (a b c:Int):St:=z2j zor.ps (a,(b,(c,())))
def f70s1 (a:Bool):St:=z1k [(6,xB a)] [] []
def f70l1:z09:=⟨[6],[],[],[],[]⟩
def f70B:Nat→Option z09:=z1n [(1000000,f70l1)]
abbrev f70i {ρ:Type} (N:Nat) (c:Code) (p:z0p) (σ:St) (K:KT ρ):Option ρ:=z1t f70G tab f70B N c p σ K
def f70c (n:Nat):Code:=z2x 99 (z25 Try.f70) n
theorem f70t0 N a b c (K:KT ρ):f70i N (f70c 1) .n (f70s0 a b c) (z00 (some f70lE) K) =
 z2o.Z0 N a b c (fun d=>K .ret (f70s1 d)):=by kernel_rfl
theorem f70m (N:Nat) (a b c:Int):f70i N (f70c 1) .n (f70s0 a b c) (z00 (some f70lE) (z3o tab zor Try.f70.results.toList)) = z2o.Z0 N a b c (fun d=>some ((),(d,()))) :=
 (f70t0 N a b c (z3o tab zor Try.f70.results.toList)).trans (by kernel_rfl)
theorem f70ok (h:z2o.Spec):z0r Try.prog 70 e70 :=
 z0k (sig:=zor) (c:=(f70c 1)) (pl:=.n) (je:=(some f70lE)) (B:=f70B) Try.func70 (by kernel_rfl) (by kernel_rfl) (by kernel_rfl) z34 f70GOk (by kernel_rfl) (by kernel_rfl) (by kernel_rfl) (by kernel_rfl) fun X hb hp=>by
  obtain ⟨a,b,d,_⟩:=X
  obtain ⟨N,h⟩:=h a b d
  exact ⟨N,(f70m N a b d).trans (h N (Nat.le_refl N))⟩
theorem e70ok:z0r Try.prog 70 e70:=f70ok z2o.ok
end Go.Fw
namespace Go.Fw
variable {ρ:Type}
open Go.Proofs
def zic:Sig:=⟨[⟨.int .i64,false,false⟩],[⟨.bool,false,false⟩]⟩
def e109:z2v:=⟨zic,none,fun X=>((),((z27.g X.1),()))⟩
def f109G:Gm:=z4p z24 70 e70
theorem f109GOk:GOk Try.prog f109G:=(GOk.nil).add e70ok (by kernel_rfl)
def y5j:z09:=⟨[],[],[],[],[]⟩
def f109s0 (a:Int):St:=z2j zic.ps (a,())
def f109s1 (a:Bool):St:=z1k [(2,xB a)] [] []
def f109l1:z09:=⟨[2],[],[],[],[]⟩
def f109B:Nat→Option z09:=z1n [(1000000,f109l1)]
abbrev f109i {ρ:Type} (N:Nat) (c:Code) (p:z0p) (σ:St) (K:KT ρ):Option ρ:=z1t f109G tab f109B N c p σ K
def f109c (n:Nat):Code:=z2x 99 (z25 Try.f109) n
theorem f109t0 N a (K:KT ρ):f109i N (f109c 1) .n (f109s0 a) (z00 (some y5j) K) =
 z27.Z0 N a (fun b=>K .ret (f109s1 b)):=by kernel_rfl
theorem f109m (N:Nat) (a:Int):f109i N (f109c 1) .n (f109s0 a) (z00 (some y5j) (z3o tab zic Try.f109.results.toList)) = z27.Z0 N a (fun b=>some ((),(b,()))) :=
 (f109t0 N a (z3o tab zic Try.f109.results.toList)).trans (by kernel_rfl)
theorem f109ok (h:z27.Spec):z0r Try.prog 109 e109 :=
 z0k (sig:=zic) (c:=(f109c 1)) (pl:=.n) (je:=(some y5j)) (B:=f109B) Try.func109 (by kernel_rfl) (by kernel_rfl) (by kernel_rfl) z34 f109GOk (by kernel_rfl) (by kernel_rfl) (by kernel_rfl) (by kernel_rfl) fun X hb hp=>by
  obtain ⟨a,_⟩:=X
  obtain ⟨N,h⟩:=h a
  exact ⟨N,(f109m N a).trans (h N (Nat.le_refl N))⟩
theorem e109ok:z0r Try.prog 109 e109:=f109ok z27.ok
end Go.Fw
namespace Go.Fw
variable {ρ:Type}
open Go.Proofs
def zdx:Sig:=⟨[⟨.sl 3 (.int .i64),false,false⟩,⟨.fnc 109,false,false⟩],[⟨.int .i64,false,false⟩]⟩
def e128b:z2v:=⟨zdx,none,fun X=>((),((z0b.g X.1 X.2.1),()))⟩
def f128bG:Gm:=z4p z24 109 e109
theorem f128bGOk:GOk Try.prog f128bG:=(GOk.nil).add e109ok (by kernel_rfl)
def z9c:z09:=⟨[],[],[],[],[]⟩
def zrd (a:LI) (b:Unit):St:=z2j zdx.ps (a,(b,()))
def zm7 (a:LI):St:=z1k [(0,.c (.sn 3 tI a none)),(1,.c (.fn 109 []))] [] []
def y32:z09:=⟨[0,1],[],[],[],[]⟩
def zep (a:LI) (b d:Int):St:=z1k [(0,.c (.sn 3 tI a none)),(1,.c (.fn 109 [])),(7,xi b),(8,xi d)] [] []
def zhp:z09:=⟨[0,1,7,8],[],[],[],[]⟩
def zcp :St:=z1k [] [] []
def z8h:z09:=⟨[],[],[],[],[]⟩
def z8g (a:Int):St:=z1k [(4,xi a)] [] []
def f128bl4:z09:=⟨[4],[],[],[],[]⟩
def f128bB:Nat→Option z09:=z1n [(0,z8h),(1000000,f128bl4)]
abbrev z86 {ρ:Type} (N:Nat) (c:Code) (p:z0p) (σ:St) (K:KT ρ):Option ρ:=z1t f128bG tab f128bB N c p σ K
def z7t (n:Nat):Code:=z2x 99 (z25 Try.f128) n
theorem f128bt1 N a b (K:KT ρ):z86 N (z7t 2) .n (zrd a b) (z00 (some y32) K) =
 z0b.Z1 N a b (fun a=>K .nrm (zm7 a)):=by kernel_rfl
theorem f128bt4 N a (K:KT ρ):z86 N (z7t 9) .n (zm7 a) (z00 (some zhp) K) =
 z0b.Z4 N a (fun a b c=>K .nrm (zep a b c)):=by kernel_rfl
theorem f128bt7 N a b c (K:KT ρ):z86 N (z7t 37) .n (zep a b c) (z00 (some zhp) K) =
 z0b.Z7 N a b c (fun a b c=>K .nrm (zep a b c)) (K (.exit 0) zcp) (fun d=>K .ret (z8g d)):=by kernel_rfl
def y30:z0p:=.mk none (some zhp) .n .n
abbrev y2z {ρ:Type} (N M:Nat) (σ:St) (K:KT ρ):Option ρ:=z2r (fun σ K=>z86 N (z7t 37) .n σ K) zhp M σ K
theorem ztx {ρ:Type} (N:Nat) (K:KT ρ):∀ (M:Nat) (a:LI) (b c:Int),y2z N M (zep a b c) K =
 z0b.Z6L N (K (.exit 0) zcp) (fun d=>K .ret (z8g d)) M a b c
 | 0,_,_,_=>rfl
 | M + 1,a,b,c=>z12 (fun k=>z0b.Z7 N a b c k (K (.exit 0) zcp) (fun d=>K .ret (z8g d))) (f128bt7 N (K:=z16 (fun σ=>y2z N M σ K) K) ..) (fx3 fun a b c=>ztx N K M a b c) (by kernel_rfl)
theorem f128bt6 N a b c (K:KT ρ):z86 N (z7t 21) y30 (zep a b c) (z00 (some z8h) K) =
  z0b.Z6 N a b c (K (.exit 0) zcp) (fun d=>K .ret (z8g d)) :=
 z1d (by kernel_rfl) (ztx N (z00 (some z8h) K) N a b c) (by kernel_rfl)
def zre:z0p:=.mk (some z8h) none y30 .n
theorem f128bt5 N a b c (K:KT ρ):z86 N (z7t 13) zre (zep a b c) (z00 (some z8h) K) =
  z0b.Z5 N a b c (K .nrm zcp) (fun d=>K .ret (z8g d)) :=
 z0n (by kernel_rfl) (f128bt6 N (K:=z1j 0 (z00 (some z8h) K)) ..) (by kernel_rfl)
def y31:z0p:=.mk (some zhp) none .n zre
theorem f128bt3 N a (K:KT ρ):z86 N (z7t 5) y31 (zm7 a) (z00 (some z8h) K) =
  z0b.Z3 N a (K .nrm zcp) (fun b=>K .ret (z8g b)) :=
 z05 (fun k=>z0b.Z4 N a k) (by kernel_rfl) (f128bt4 N (K:=z16 (fun σ=>z86 N (z7t 13) zre σ (z00 (some z8h) K)) (z00 (some z8h) K)) ..) (fx3 fun a c d=>f128bt5 N a c d K) (by kernel_rfl)
theorem f128bt8 N  (K:KT ρ):z86 N (z7t 7) .n zcp (z00 (some z9c) K) =
 z0b.Z8 N (fun a=>K .ret (z8g a)):=by kernel_rfl
def zrf:z0p:=.mk (some z8h) none y31 .n
theorem f128bt2 N a (K:KT ρ):z86 N (z7t 3) zrf (zm7 a) (z00 (some z9c) K) =
  z0b.Z2 N a (fun b=>K .ret (z8g b)) :=
 z05 (fun k=>z0b.Z3 N a k (fun b=>K .ret (z8g b))) (by kernel_rfl) (f128bt3 N (K:=z16 (fun σ=>z86 N (z7t 7) .n σ (z00 (some z9c) K)) (z00 (some z9c) K)) ..) (f128bt8 N K) (by kernel_rfl)
def zrg:z0p:=.mk (some y32) none .n zrf
theorem f128bt0 N a b (K:KT ρ):z86 N (z7t 1) zrg (zrd a b) (z00 (some z9c) K) =
  z0b.Z0 N a b (fun c=>K .ret (z8g c)) :=
 z05 (fun k=>z0b.Z1 N a b k) (by kernel_rfl) (f128bt1 N (K:=z16 (fun σ=>z86 N (z7t 3) zrf σ (z00 (some z9c) K)) (z00 (some z9c) K)) ..) (funext fun a=>f128bt2 N a K) (by kernel_rfl)
theorem f128bm (N:Nat) (a:LI) (b:Unit):z86 N (z7t 1) zrg (zrd a b) (z00 (some z9c) (z3o tab zdx Try.f128.results.toList)) = z0b.Z0 N a b (fun c=>some ((),(c,()))) :=
 (f128bt0 N a b (z3o tab zdx Try.f128.results.toList)).trans (by kernel_rfl)
theorem f128bok (h:z0b.Spec):z0r Try.prog 128 e128b :=
 z0k (sig:=zdx) (c:=(z7t 1)) (pl:=zrg) (je:=(some z9c)) (B:=f128bB) Try.func128 (by kernel_rfl) (by kernel_rfl) (by kernel_rfl) z34 f128bGOk (by kernel_rfl) (by kernel_rfl) (by kernel_rfl) (by kernel_rfl) fun X hb hp=>by
  obtain ⟨a,b,_⟩:=X
  obtain ⟨N,h⟩:=h a b hb.1
  exact ⟨N,(f128bm N a b).trans (h N (Nat.le_refl N))⟩
theorem e128bok:z0r Try.prog 128 e128b:=f128bok z0b.ok
end Go.Fw
namespace Go.Fw
variable {ρ:Type}
open Go.Proofs
def ze2:Sig:=⟨[⟨.sl 3 (.int .i64),false,false⟩,⟨.fnc 109,false,false⟩],[⟨.bool,false,false⟩]⟩
def e108b:z2v:=⟨ze2,none,fun X=>((),((z10.g X.1 X.2.1),()))⟩
def f108bG:Gm:=z4p z24 128 e128b
theorem f108bGOk:GOk Try.prog f108bG:=(GOk.nil).add e128bok (by kernel_rfl)
def zs1:z09:=⟨[],[],[],[],[]⟩
def y5k (a:LI) (b:Unit):St:=z2j ze2.ps (a,(b,()))
def f108bs1 (a:Bool):St:=z1k [(4,xB a)] [] []
def f108bl1:z09:=⟨[4],[],[],[],[]⟩
def f108bB:Nat→Option z09:=z1n [(1000000,f108bl1)]
abbrev f108bi {ρ:Type} (N:Nat) (c:Code) (p:z0p) (σ:St) (K:KT ρ):Option ρ:=z1t f108bG tab f108bB N c p σ K
def y5l (n:Nat):Code:=z2x 99 (z25 Try.f108) n
theorem f108bt0 N a b (K:KT ρ):f108bi N (y5l 1) .n (y5k a b) (z00 (some zs1) K) =
 z10.Z0 N a b (fun c=>K .ret (f108bs1 c)):=by kernel_rfl
theorem f108bm (N:Nat) (a:LI) (b:Unit):f108bi N (y5l 1) .n (y5k a b) (z00 (some zs1) (z3o tab ze2 Try.f108.results.toList)) = z10.Z0 N a b (fun c=>some ((),(c,()))) :=
 (f108bt0 N a b (z3o tab ze2 Try.f108.results.toList)).trans (by kernel_rfl)
theorem f108bok (h:z10.Spec):z0r Try.prog 108 e108b :=
 z0k (sig:=ze2) (c:=(y5l 1)) (pl:=.n) (je:=(some zs1)) (B:=f108bB) Try.func108 (by kernel_rfl) (by kernel_rfl) (by kernel_rfl) z34 f108bGOk (by kernel_rfl) (by kernel_rfl) (by kernel_rfl) (by kernel_rfl) fun X hb hp=>by
  obtain ⟨a,b,_⟩:=X
  obtain ⟨N,h⟩:=h a b hb.1
  exact ⟨N,(f108bm N a b).trans (h N (Nat.le_refl N))⟩
theorem e108bok:z0r Try.prog 108 e108b:=f108bok z10.ok
end Go.Fw
namespace Go.Fw
variable {ρ:Type}
open Go.Proofs
def zom:Sig:=⟨[⟨.pair (.int .i64) (.pair (.int .i64) (.sl 3 (.int .i64))),true,false⟩],[⟨.bool,false,false⟩]⟩
def e75:z2v:=⟨zom,none,fun X=>((),((z46.g X.1),()))⟩
def f75G:Gm:=z4p (z4p z24 70 e70) 108 e108b
theorem f75GOk:GOk Try.prog f75G:=((GOk.nil).add e70ok (by kernel_rfl)).add e108bok (by kernel_rfl)
def f75lE:z09:=⟨[],[],[],[],[]⟩
def f75s0 (a:MT):St:=z2j zom.ps (a,())
def f75s1 (a:Bool):St:=z1k [(2,xB a)] [] []
def f75l1:z09:=⟨[2],[],[],[],[]⟩
def f75B:Nat→Option z09:=z1n [(1000000,f75l1)]
abbrev f75i {ρ:Type} (N:Nat) (c:Code) (p:z0p) (σ:St) (K:KT ρ):Option ρ:=z1t f75G tab f75B N c p σ K
def f75c (n:Nat):Code:=z2x 99 (z25 Try.f75) n
theorem f75t0 N a (K:KT ρ):f75i N (f75c 1) .n (f75s0 a) (z00 (some f75lE) K) =
 z46.Z0 N a (fun b=>K .ret (f75s1 b)):=by kernel_rfl
theorem f75m (N:Nat) (a:MT):f75i N (f75c 1) .n (f75s0 a) (z00 (some f75lE) (z3o tab zom Try.f75.results.toList)) = z46.Z0 N a (fun b=>some ((),(b,()))) :=
 (f75t0 N a (z3o tab zom Try.f75.results.toList)).trans (by kernel_rfl)
theorem f75ok (h:z46.Spec):z0r Try.prog 75 e75 :=
 z0k (sig:=zom) (c:=(f75c 1)) (pl:=.n) (je:=(some f75lE)) (B:=f75B) Try.func75 (by kernel_rfl) (by kernel_rfl) (by kernel_rfl) z34 f75GOk (by kernel_rfl) (by kernel_rfl) (by kernel_rfl) (by kernel_rfl) fun X hb hp=>by
  obtain ⟨a,_⟩:=X
  obtain ⟨N,h⟩:=h a hb.1
  exact ⟨N,(f75m N a).trans (h N (Nat.le_refl N))⟩
theorem e75ok:z0r Try.prog 75 e75:=f75ok z46.ok
end Go.Fw
namespace Go.Fw
variable {ρ:Type}
open Go.Proofs
def zof:Sig:=⟨[⟨.pair (.int .i64) (.pair (.int .i64) (.sl 3 (.int .i64))),true,false⟩,⟨.int .i64,false,false⟩,⟨.int .i64,false,false⟩],[⟨.int .i64,false,false⟩]⟩
def e83:z2v:=⟨zof,(some fun X=>z13.P X.1 X.2.1 X.2.2.1),fun X=>((),((z13.g X.1 X.2.1 X.2.2.1),()))⟩
def f83G:Gm:=z24
theorem f83GOk:GOk Try.prog f83G:=GOk.nil
def f83lE:z09:=⟨[],[],[],[],[]⟩
def f83s0 (a:MT) (b c:Int):St:=z2j zof.ps (a,(b,(c,())))
def f83s1 (a:Int):St:=z1k [(6,xi a)] [] []
def f83l1:z09:=⟨[6],[],[],[],[]⟩
def f83B:Nat→Option z09:=z1n [(1000000,f83l1)]
abbrev f83i {ρ:Type} (N:Nat) (c:Code) (p:z0p) (σ:St) (K:KT ρ):Option ρ:=z1t f83G tab f83B N c p σ K
def f83c (n:Nat):Code:=z2x 99 (z25 Try.f83) n
theorem f83t0 N a b c (K:KT ρ):f83i N (f83c 1) .n (f83s0 a b c) (z00 (some f83lE) K) =
 z13.Z0 N a b c (fun d=>K .ret (f83s1 d)):=by kernel_rfl
theorem f83m (N:Nat) (a:MT) (b c:Int):f83i N (f83c 1) .n (f83s0 a b c) (z00 (some f83lE) (z3o tab zof Try.f83.results.toList)) = z13.Z0 N a b c (fun d=>some ((),(d,()))) :=
 (f83t0 N a b c (z3o tab zof Try.f83.results.toList)).trans (by kernel_rfl)
theorem f83ok (h:z13.Spec):z0r Try.prog 83 e83 :=
 z0k (sig:=zof) (c:=(f83c 1)) (pl:=.n) (je:=(some f83lE)) (B:=f83B) Try.func83 (by kernel_rfl) (by kernel_rfl) (by kernel_rfl) z34 f83GOk (by kernel_rfl) (by kernel_rfl) (by kernel_rfl) (by kernel_rfl) fun X hb hp=>by
  obtain ⟨a,b,d,_⟩:=X
  obtain ⟨N,h⟩:=h a b d hb.1 hp
  exact ⟨N,(f83m N a b d).trans (h N (Nat.le_refl N))⟩
theorem e83ok:z0r Try.prog 83 e83:=f83ok z13.ok
end Go.Fw
namespace Go.Fw
variable {ρ:Type}
open Go.Proofs
def zi7:Sig:=⟨[⟨.int .i64,false,false⟩,⟨.int .i64,false,false⟩],[⟨.int .i64,false,false⟩]⟩
def e110:z2v:=⟨zi7,(some fun X=>z29.P X.1 X.2.1),fun X=>((),((z29.g X.1 X.2.1),()))⟩
def f110G:Gm:=z24
theorem f110GOk:GOk Try.prog f110G:=GOk.nil
def ze1:z09:=⟨[],[],[],[],[]⟩
def y5f (a b:Int):St:=z2j zi7.ps (a,(b,()))
def zi8 (a b:Int):St:=z1k [(0,xi a),(1,xi b)] [] []
def zpo:z09:=⟨[0,1],[],[],[],[]⟩
def zko (a:Int):St:=z1k [(0,xi a)] [] []
def zi9:z09:=⟨[0],[],[],[],[]⟩
def y5e (a:Int):St:=z1k [(4,xi a)] [] []
def f110l3:z09:=⟨[4],[],[],[],[]⟩
def f110B:Nat→Option z09:=z1n [(0,zi9),(1000000,f110l3)]
abbrev zia {ρ:Type} (N:Nat) (c:Code) (p:z0p) (σ:St) (K:KT ρ):Option ρ:=z1t f110G tab f110B N c p σ K
def zg4 (n:Nat):Code:=z2x 99 (z25 Try.f110) n
theorem f110t1 N a b (K:KT ρ):zia N (zg4 2) .n (y5f a b) (z00 (some zpo) K) =
 z29.Z1 N a b (fun a b=>K .nrm (zi8 a b)):=by kernel_rfl
theorem f110t5 N a b (K:KT ρ):zia N (zg4 17) .n (zi8 a b) (z00 (some zpo) K) =
 z29.Z5 N a b (fun a b=>K .nrm (zi8 a b)) (fun a=>K (.exit 0) (zko a)):=by kernel_rfl
def f110p4:z0p:=.mk none (some zpo) .n .n
abbrev f110w4 {ρ:Type} (N M:Nat) (σ:St) (K:KT ρ):Option ρ:=z2r (fun σ K=>zia N (zg4 17) .n σ K) zpo M σ K
theorem y5d {ρ:Type} (N:Nat) (K:KT ρ):∀ (M:Nat) (a b:Int),f110w4 N M (zi8 a b) K =
 z29.Z4L N (fun a=>K (.exit 0) (zko a)) M a b
 | 0,_,_=>rfl
 | M + 1,a,b=>z12 (fun k=>z29.Z5 N a b k (fun a=>K (.exit 0) (zko a))) (f110t5 N (K:=z16 (fun σ=>f110w4 N M σ K) K) ..) (fx2 fun a b=>y5d N K M a b) (by kernel_rfl)
theorem f110t4 N a b (K:KT ρ):zia N (zg4 9) f110p4 (zi8 a b) (z00 (some zi9) K) =
  z29.Z4 N a b (fun a=>K (.exit 0) (zko a)) :=
 z1d (by kernel_rfl) (y5d N (z00 (some zi9) K) N a b) (by kernel_rfl)
def f110p3:z0p:=.mk (some zi9) none f110p4 .n
theorem f110t3 N a b (K:KT ρ):zia N (zg4 5) f110p3 (zi8 a b) (z00 (some zi9) K) =
  z29.Z3 N a b (fun a=>K .nrm (zko a)) :=
 z0n (by kernel_rfl) (f110t4 N (K:=z1j 0 (z00 (some zi9) K)) ..) (by kernel_rfl)
theorem f110t6 N a (K:KT ρ):zia N (zg4 7) .n (zko a) (z00 (some ze1) K) =
 z29.Z6 N a (fun b=>K .ret (y5e b)):=by kernel_rfl
def y5g:z0p:=.mk (some zi9) none f110p3 .n
theorem f110t2 N a b (K:KT ρ):zia N (zg4 3) y5g (zi8 a b) (z00 (some ze1) K) =
  z29.Z2 N a b (fun c=>K .ret (y5e c)) :=
 z05 (fun k=>z29.Z3 N a b k) (by kernel_rfl) (f110t3 N (K:=z16 (fun σ=>zia N (zg4 7) .n σ (z00 (some ze1) K)) (z00 (some ze1) K)) ..) (funext fun a=>f110t6 N a K) (by kernel_rfl)
def y5h:z0p:=.mk (some zpo) none .n y5g
theorem f110t0 N a b (K:KT ρ):zia N (zg4 1) y5h (y5f a b) (z00 (some ze1) K) =
  z29.Z0 N a b (fun c=>K .ret (y5e c)) :=
 z05 (fun k=>z29.Z1 N a b k) (by kernel_rfl) (f110t1 N (K:=z16 (fun σ=>zia N (zg4 3) y5g σ (z00 (some ze1) K)) (z00 (some ze1) K)) ..) (fx2 fun a b=>f110t2 N a b K) (by kernel_rfl)
theorem f110m (N:Nat) (a b:Int):zia N (zg4 1) y5h (y5f a b) (z00 (some ze1) (z3o tab zi7 Try.f110.results.toList)) = z29.Z0 N a b (fun c=>some ((),(c,()))) :=
 (f110t0 N a b (z3o tab zi7 Try.f110.results.toList)).trans (by kernel_rfl)
theorem f110ok (h:z29.Spec):z0r Try.prog 110 e110 :=
 z0k (sig:=zi7) (c:=(zg4 1)) (pl:=y5h) (je:=(some ze1)) (B:=f110B) Try.func110 (by kernel_rfl) (by kernel_rfl) (by kernel_rfl) z34 f110GOk (by kernel_rfl) (by kernel_rfl) (by kernel_rfl) (by kernel_rfl) fun X hb hp=>by
  obtain ⟨a,b,_⟩:=X
  obtain ⟨N,h⟩:=h a b hp
  exact ⟨N,(f110m N a b).trans (h N (Nat.le_refl N))⟩
theorem e110ok:z0r Try.prog 110 e110:=f110ok z29.ok
end Go.Fw
namespace Go.Fw
variable {ρ:Type}
open Go.Proofs
def zoh:Sig:=⟨[⟨.pair (.int .i64) (.pair (.int .i64) (.sl 3 (.int .i64))),true,false⟩],[⟨.sl 3 (.int .i64),false,true⟩]⟩
def e76:z2v:=⟨zoh,(some fun X=>z02.P X.1),fun X=>((),((z02.g X.1),()))⟩
def f76G:Gm:=z4p (z4p z24 83 e83) 110 e110
theorem f76GOk:GOk Try.prog f76G:=((GOk.nil).add e83ok (by kernel_rfl)).add e110ok (by kernel_rfl)
def zci:z09:=⟨[],[],[],[],[]⟩
def f76s0 (a:MT):St:=z2j zoh.ps (a,())
def f76s1 (a b:Int) (c:LI):St:=z1k [(1,xb 1)] [(1,(30,[yi a,yi b,.sn 3 tI c none]))] []
def f76l1:z09:=⟨[1],[1],[],[],[]⟩
def f76s2 (a b:LI) (c d:Int) (e:LI):St:=z1k [(1,xb 1),(3,xo 1000192),(4,xo 1000256)] [(1,(30,[yi c,yi d,.sn 3 tI e none]))] [(1000192,(⟨3,.int .i64,a,true,false⟩:Row)),(1000256,(⟨3,.int .i64,b,true,false⟩:Row))]
def f76l2:z09:=⟨[1,3,4],[1],[],[],[(⟨false,3,0⟩,1000192),(⟨false,4,0⟩,1000256)]⟩
def f76s3 (a b c:LI) (d e:Int) (f:LI):St:=z1k [(1,xb 1),(3,xo 1000192),(4,xo 1000256),(5,xo 1000320)] [(1,(30,[yi d,yi e,.sn 3 tI f none]))] [(1000192,(⟨3,.int .i64,a,true,false⟩:Row)),(1000256,(⟨3,.int .i64,b,true,false⟩:Row)),(1000320,(⟨3,.int .i64,c,true,false⟩:Row))]
def f76l3:z09:=⟨[1,3,4,5],[1],[],[],[(⟨false,3,0⟩,1000192),(⟨false,4,0⟩,1000256),(⟨false,5,0⟩,1000320)]⟩
def z4r (a b c:LI) (d e f g:Int) (h:LI):St:=z1k [(1,xb 1),(3,xo 1000192),(4,xo 1000256),(5,xo 1000320),(34,xi d),(35,xi e)] [(1,(30,[yi f,yi g,.sn 3 tI h none]))] [(1000192,(⟨3,.int .i64,a,true,false⟩:Row)),(1000256,(⟨3,.int .i64,b,true,false⟩:Row)),(1000320,(⟨3,.int .i64,c,true,false⟩:Row))]
def z3e:z09:=⟨[1,3,4,5,34,35],[1],[],[],[(⟨false,3,0⟩,1000192),(⟨false,4,0⟩,1000256),(⟨false,5,0⟩,1000320)]⟩
def f76s5 (a b c:LI) (d e:Int) (f:Bool) (g h:Int) (i:LI):St:=z1k [(1,xb 1),(3,xo 1000192),(4,xo 1000256),(5,xo 1000320),(34,xi d),(35,xi e),(36,xB f)] [(1,(30,[yi g,yi h,.sn 3 tI i none]))] [(1000192,(⟨3,.int .i64,a,true,false⟩:Row)),(1000256,(⟨3,.int .i64,b,true,false⟩:Row)),(1000320,(⟨3,.int .i64,c,true,false⟩:Row))]
def f76l5:z09:=⟨[1,3,4,5,34,35,36],[1],[],[],[(⟨false,3,0⟩,1000192),(⟨false,4,0⟩,1000256),(⟨false,5,0⟩,1000320)]⟩
def zm0 (a b c:LI) (d e f g h:Int) (i:LI):St:=z1k [(1,xb 1),(3,xo 1000192),(4,xo 1000256),(5,xo 1000320),(6,xi d),(34,xi e),(35,xi f)] [(1,(30,[yi g,yi h,.sn 3 tI i none]))] [(1000192,(⟨3,.int .i64,a,true,false⟩:Row)),(1000256,(⟨3,.int .i64,b,true,false⟩:Row)),(1000320,(⟨3,.int .i64,c,true,false⟩:Row))]
def zw3:z09:=⟨[1,3,4,5,6,34,35],[1],[],[],[(⟨false,3,0⟩,1000192),(⟨false,4,0⟩,1000256),(⟨false,5,0⟩,1000320)]⟩
def zdq (a b c d:LI) (e f g h:Int) (i:LI):St:=z1k [(1,xb 1),(3,xo 1000192),(4,xo 1000256),(5,xo 1000320),(7,xo 1000448),(34,xi e),(35,xi f)] [(1,(30,[yi g,yi h,.sn 3 tI i none]))] [(1000192,(⟨3,.int .i64,a,true,false⟩:Row)),(1000256,(⟨3,.int .i64,b,true,false⟩:Row)),(1000320,(⟨3,.int .i64,c,true,false⟩:Row)),(1000448,(⟨3,.int .i64,d,true,false⟩:Row))]
def zft:z09:=⟨[1,3,4,5,7,34,35],[1],[],[],[(⟨false,3,0⟩,1000192),(⟨false,4,0⟩,1000256),(⟨false,5,0⟩,1000320),(⟨false,7,0⟩,1000448)]⟩
def z70 (a b c d:LI) (e f g h i:Int) (j:LI):St:=z1k [(1,xb 1),(3,xo 1000192),(4,xo 1000256),(5,xo 1000320),(7,xo 1000448),(8,xi e),(34,xi f),(35,xi g)] [(1,(30,[yi h,yi i,.sn 3 tI j none]))] [(1000192,(⟨3,.int .i64,a,true,false⟩:Row)),(1000256,(⟨3,.int .i64,b,true,false⟩:Row)),(1000320,(⟨3,.int .i64,c,true,false⟩:Row)),(1000448,(⟨3,.int .i64,d,true,false⟩:Row))]
def z65:z09:=⟨[1,3,4,5,7,8,34,35],[1],[],[],[(⟨false,3,0⟩,1000192),(⟨false,4,0⟩,1000256),(⟨false,5,0⟩,1000320),(⟨false,7,0⟩,1000448)]⟩
def f76s9 (a b c d:LI) (e f g h i j:Int) (l:LI):St:=z1k [(1,xb 1),(3,xo 1000192),(4,xo 1000256),(5,xo 1000320),(7,xo 1000448),(8,xi e),(9,xi f),(34,xi g),(35,xi h)] [(1,(30,[yi i,yi j,.sn 3 tI l none]))] [(1000192,(⟨3,.int .i64,a,true,false⟩:Row)),(1000256,(⟨3,.int .i64,b,true,false⟩:Row)),(1000320,(⟨3,.int .i64,c,true,false⟩:Row)),(1000448,(⟨3,.int .i64,d,true,false⟩:Row))]
def f76l9:z09:=⟨[1,3,4,5,7,8,9,34,35],[1],[],[],[(⟨false,3,0⟩,1000192),(⟨false,4,0⟩,1000256),(⟨false,5,0⟩,1000320),(⟨false,7,0⟩,1000448)]⟩
def z4g (a b c d:LI) (e f g h i j l m:Int) (o:LI):St:=z1k [(1,xb 1),(3,xo 1000192),(4,xo 1000256),(5,xo 1000320),(7,xo 1000448),(8,xi e),(9,xi f),(34,xi g),(35,xi h),(62,xi i),(63,xi j)] [(1,(30,[yi l,yi m,.sn 3 tI o none]))] [(1000192,(⟨3,.int .i64,a,true,false⟩:Row)),(1000256,(⟨3,.int .i64,b,true,false⟩:Row)),(1000320,(⟨3,.int .i64,c,true,false⟩:Row)),(1000448,(⟨3,.int .i64,d,true,false⟩:Row))]
def z3y:z09:=⟨[1,3,4,5,7,8,9,34,35,62,63],[1],[],[],[(⟨false,3,0⟩,1000192),(⟨false,4,0⟩,1000256),(⟨false,5,0⟩,1000320),(⟨false,7,0⟩,1000448)]⟩
def zzv (a b c d:LI) (e f g h i j:Int) (l:Bool) (m o:Int) (p:LI):St:=z1k [(1,xb 1),(3,xo 1000192),(4,xo 1000256),(5,xo 1000320),(7,xo 1000448),(8,xi e),(9,xi f),(34,xi g),(35,xi h),(62,xi i),(63,xi j),(64,xB l)] [(1,(30,[yi m,yi o,.sn 3 tI p none]))] [(1000192,(⟨3,.int .i64,a,true,false⟩:Row)),(1000256,(⟨3,.int .i64,b,true,false⟩:Row)),(1000320,(⟨3,.int .i64,c,true,false⟩:Row)),(1000448,(⟨3,.int .i64,d,true,false⟩:Row))]
def f76l11:z09:=⟨[1,3,4,5,7,8,9,34,35,62,63,64],[1],[],[],[(⟨false,3,0⟩,1000192),(⟨false,4,0⟩,1000256),(⟨false,5,0⟩,1000320),(⟨false,7,0⟩,1000448)]⟩
def zzu (a b c d:LI) (e f g h i j l m o:Int) (p:LI):St:=z1k [(1,xb 1),(3,xo 1000192),(4,xo 1000256),(5,xo 1000320),(7,xo 1000448),(8,xi e),(9,xi f),(10,xi g),(34,xi h),(35,xi i),(62,xi j),(63,xi l)] [(1,(30,[yi m,yi o,.sn 3 tI p none]))] [(1000192,(⟨3,.int .i64,a,true,false⟩:Row)),(1000256,(⟨3,.int .i64,b,true,false⟩:Row)),(1000320,(⟨3,.int .i64,c,true,false⟩:Row)),(1000448,(⟨3,.int .i64,d,true,false⟩:Row))]
def f76l12:z09:=⟨[1,3,4,5,7,8,9,10,34,35,62,63],[1],[],[],[(⟨false,3,0⟩,1000192),(⟨false,4,0⟩,1000256),(⟨false,5,0⟩,1000320),(⟨false,7,0⟩,1000448)]⟩
def zoi (a b c d:LI) (e f g h i j l m o p q:Int) (r:LI):St:=z1k [(1,xb 1),(3,xo 1000192),(4,xo 1000256),(5,xo 1000320),(7,xo 1000448),(8,xi e),(9,xi f),(10,xi g),(11,xi h),(12,xi i),(34,xi j),(35,xi l),(62,xi m),(63,xi o)] [(1,(30,[yi p,yi q,.sn 3 tI r none]))] [(1000192,(⟨3,.int .i64,a,true,false⟩:Row)),(1000256,(⟨3,.int .i64,b,true,false⟩:Row)),(1000320,(⟨3,.int .i64,c,true,false⟩:Row)),(1000448,(⟨3,.int .i64,d,true,false⟩:Row))]
def zts:z09:=⟨[1,3,4,5,7,8,9,10,11,12,34,35,62,63],[1],[],[],[(⟨false,3,0⟩,1000192),(⟨false,4,0⟩,1000256),(⟨false,5,0⟩,1000320),(⟨false,7,0⟩,1000448)]⟩
def z9n (a b c d:LI) (e f g h i:Int) (j:LI):St:=z1k [(1,xb 1),(3,xo 1000192),(4,xo 1000256),(5,xo 1000320),(7,xo 1000448),(16,xi e),(34,xi f),(35,xi g)] [(1,(30,[yi h,yi i,.sn 3 tI j none]))] [(1000192,(⟨3,.int .i64,a,true,false⟩:Row)),(1000256,(⟨3,.int .i64,b,true,false⟩:Row)),(1000320,(⟨3,.int .i64,c,true,false⟩:Row)),(1000448,(⟨3,.int .i64,d,true,false⟩:Row))]
def z9o:z09:=⟨[1,3,4,5,7,16,34,35],[1],[],[],[(⟨false,3,0⟩,1000192),(⟨false,4,0⟩,1000256),(⟨false,5,0⟩,1000320),(⟨false,7,0⟩,1000448)]⟩
def zkb (a b c d:LI) (e f g h i j l:Int) (m:LI):St:=z1k [(1,xb 1),(3,xo 1000192),(4,xo 1000256),(5,xo 1000320),(7,xo 1000448),(16,xi e),(34,xi f),(35,xi g),(158,xo 1000448),(159,xi h),(160,xi i)] [(1,(30,[yi j,yi l,.sn 3 tI m none]))] [(1000192,(⟨3,.int .i64,a,true,false⟩:Row)),(1000256,(⟨3,.int .i64,b,true,false⟩:Row)),(1000320,(⟨3,.int .i64,c,true,false⟩:Row)),(1000448,(⟨3,.int .i64,d,true,false⟩:Row))]
def zol:z09:=⟨[1,3,4,5,7,16,34,35,158,159,160],[1],[],[],[(⟨false,3,0⟩,1000192),(⟨false,4,0⟩,1000256),(⟨false,5,0⟩,1000320),(⟨false,7,0⟩,1000448)]⟩
def ztr (a b c d:LI) (e f g h i j:Int) (l:LI):St:=z1k [(1,xb 1),(3,xo 1000192),(4,xo 1000256),(5,xo 1000320),(7,xo 1000448),(16,xi e),(19,xi f),(34,xi g),(35,xi h)] [(1,(30,[yi i,yi j,.sn 3 tI l none]))] [(1000192,(⟨3,.int .i64,a,true,false⟩:Row)),(1000256,(⟨3,.int .i64,b,true,false⟩:Row)),(1000320,(⟨3,.int .i64,c,true,false⟩:Row)),(1000448,(⟨3,.int .i64,d,true,false⟩:Row))]
def f76l16:z09:=⟨[1,3,4,5,7,16,19,34,35],[1],[],[],[(⟨false,3,0⟩,1000192),(⟨false,4,0⟩,1000256),(⟨false,5,0⟩,1000320),(⟨false,7,0⟩,1000448)]⟩
def zka (a b c d:LI) (e f g h i j l m:Int) (o:LI):St:=z1k [(1,xb 1),(3,xo 1000192),(4,xo 1000256),(5,xo 1000320),(7,xo 1000448),(16,xi e),(19,xi f),(34,xi g),(35,xi h),(178,xo 1000448),(179,xi i),(180,xi j)] [(1,(30,[yi l,yi m,.sn 3 tI o none]))] [(1000192,(⟨3,.int .i64,a,true,false⟩:Row)),(1000256,(⟨3,.int .i64,b,true,false⟩:Row)),(1000320,(⟨3,.int .i64,c,true,false⟩:Row)),(1000448,(⟨3,.int .i64,d,true,false⟩:Row))]
def zok:z09:=⟨[1,3,4,5,7,16,19,34,35,178,179,180],[1],[],[],[(⟨false,3,0⟩,1000192),(⟨false,4,0⟩,1000256),(⟨false,5,0⟩,1000320),(⟨false,7,0⟩,1000448)]⟩
def zfd (a b c d:LI) (e f g h i:Int) (j:LI):St:=z1k [(1,xb 1),(3,xo 1000192),(4,xo 1000256),(5,xo 1000320),(7,xo 1000448),(19,xi e),(34,xi f),(35,xi g)] [(1,(30,[yi h,yi i,.sn 3 tI j none]))] [(1000192,(⟨3,.int .i64,a,true,false⟩:Row)),(1000256,(⟨3,.int .i64,b,true,false⟩:Row)),(1000320,(⟨3,.int .i64,c,true,false⟩:Row)),(1000448,(⟨3,.int .i64,d,true,false⟩:Row))]
def zbi:z09:=⟨[1,3,4,5,7,19,34,35],[1],[],[],[(⟨false,3,0⟩,1000192),(⟨false,4,0⟩,1000256),(⟨false,5,0⟩,1000320),(⟨false,7,0⟩,1000448)]⟩
def zk9 (a b c d:LI) (e f g h i j l:Int) (m:LI):St:=z1k [(1,xb 1),(3,xo 1000192),(4,xo 1000256),(5,xo 1000320),(19,xi e),(34,xi f),(35,xi g),(205,xo 1013120),(206,xi h),(207,xi i)] [(1,(30,[yi j,yi l,.sn 3 tI m none]))] [(1000192,(⟨3,.int .i64,a,true,false⟩:Row)),(1000256,(⟨3,.int .i64,b,true,false⟩:Row)),(1000320,(⟨3,.int .i64,c,true,false⟩:Row)),(1013120,(⟨3,.int .i64,d,true,false⟩:Row))]
def zoj:z09:=⟨[1,3,4,5,19,34,35,205,206,207],[1],[],[],[(⟨false,3,0⟩,1000192),(⟨false,4,0⟩,1000256),(⟨false,5,0⟩,1000320),(⟨false,205,0⟩,1013120)]⟩
def zbg (a:LI):St:=z1k [(5,xo 1000320)] [] [(1000320,(⟨3,.int .i64,a,true,false⟩:Row))]
def zbh:z09:=⟨[5],[],[],[],[(⟨false,5,0⟩,1000320)]⟩
def z2q (a:LI):St:=z1k [(2,xo 1001000128)] [] [(1001000128,(⟨3,.int .i64,a,true,true⟩:Row))]
def f76l21:z09:=⟨[2],[],[⟨⟨false,2,0⟩,30000000,3,.int .i64,true⟩],[],[(⟨false,2,0⟩,1001000128)]⟩
def f76B:Nat→Option z09:=z1n [(5,z3y),(4,z65),(3,z65),(2,zft),(6,z9o),(8,zbi),(10,z3e),(1,z3e),(0,zbh),(1000000,f76l21)]
abbrev z3c {ρ:Type} (N:Nat) (c:Code) (p:z0p) (σ:St) (K:KT ρ):Option ρ:=z1t f76G tab f76B N c p σ K
def z3b (n:Nat):Code:=z2x 99 (z25 Try.f76) n
theorem f76t1 N a (K:KT ρ):z3c N (z3b 2) .n (f76s0 a) (z00 (some f76l1) K) =
 z02.Z1 N a (fun b c d=>K .nrm (f76s1 b c d)):=by kernel_rfl
theorem f76t3 N a b c (K:KT ρ):z3c N (z3b 5) .n (f76s1 a b c) (z00 (some f76l2) K) =
 z02.Z3 N a b c (fun d e a b c=>K .nrm (f76s2 d e a b c)):=by kernel_rfl
theorem f76t5 N a b c d e (K:KT ρ):z3c N (z3b 11) .n (f76s2 a b c d e) (z00 (some f76l3) K) =
 z02.Z5 N a b c d e (fun a b f c d e=>K .nrm (f76s3 a b f c d e)):=by kernel_rfl
theorem f76t8 N a b c d e f (K:KT ρ):z3c N (z3b 39) .n (f76s3 a b c d e f) (z00 (some z3e) K) =
 z02.Z8 N a b c d e f (fun a b c g h d e f=>K .nrm (z4r a b c g h d e f)):=by kernel_rfl
theorem f76t12 N a b c d e f g h (K:KT ρ):z3c N (z3b 279) .n (z4r a b c d e f g h) (z00 (some f76l5) K) =
 z02.Z12 N a b c d e f g h (fun a b c d e i f g h=>K .nrm (f76s5 a b c d e i f g h)):=by kernel_rfl
theorem f76t14 N b c a d e i f g h (K:KT ρ):z3c N (z3b 663) .n (f76s5 b c a d e i f g h) (z00 (some z3e) K) =
 z02.Z14 N b c a d e i f g h (fun b c a d e f g h=>K .nrm (z4r b c a d e f g h)) (fun a=>K (.exit 0) (zbg a)):=by kernel_rfl
theorem f76t18 N a b c d e f g h (K:KT ρ):z3c N (z3b 4503) .n (z4r a b c d e f g h) (z00 (some zw3) K) =
 z02.Z18 N a b c d e f g h (fun a b c i d e f g h=>K .nrm (zm0 a b c i d e f g h)):=by kernel_rfl
theorem f76t20 N a b c i d e f g h (K:KT ρ):z3c N (z3b 10647) .n (zm0 a b c i d e f g h) (z00 (some zw3) K) =
 z02.Z20 N a b c i d e f g h (fun a b c i d e f g h=>K .nrm (zm0 a b c i d e f g h)) (fun a b c d e f g h=>K (.exit 1) (z4r a b c d e f g h)):=by kernel_rfl
theorem f76t22 N a b c d e f g h i (K:KT ρ):z3c N (z3b 22935) .n (zm0 a b c d e f g h i) (z00 (some zw3) K) =
 z02.Z22 N a b c d e f g h i (fun a b c d e f g h i=>K .nrm (zm0 a b c d e f g h i)):=by kernel_rfl
theorem f76t24 N a b c i d e f g h (K:KT ρ):z3c N (z3b 47511) .n (zm0 a b c i d e f g h) (z00 (some zft) K) =
 z02.Z24 N a b c i d e f g h (fun a b c j d e f g h=>K .nrm (zdq a b c j d e f g h)):=by kernel_rfl
theorem f76t27 N a b c d e f g h i (K:KT ρ):z3c N (z3b 162199) .n (zdq a b c d e f g h i) (z00 (some z65) K) =
 z02.Z27 N a b c d e f g h i (fun a b c d j e f g h i=>K .nrm (z70 a b c d j e f g h i)):=by kernel_rfl
theorem f76t31 N a b c d j e f g h i (K:KT ρ):z3c N (z3b 1145239) .n (z70 a b c d j e f g h i) (z00 (some z65) K) =
 z02.Z31 N a b c d j e f g h i (fun a b c d j e f g h i=>K .nrm (z70 a b c d j e f g h i)) (fun a b c d e f g h i=>K (.exit 2) (zdq a b c d e f g h i)):=by kernel_rfl
theorem f76t35 N a b c d e f g h i j (K:KT ρ):z3c N (z3b 9009559) .n (z70 a b c d e f g h i j) (z00 (some f76l9) K) =
 z02.Z35 N a b c d e f g h i j (fun a b c d e l f g h i j=>K .nrm (f76s9 a b c d e l f g h i j)):=by kernel_rfl
theorem f76t37 N a b c d e f g h i j l (K:KT ρ):z3c N (z3b 21592471) .n (f76s9 a b c d e f g h i j l) (z00 (some z3y) K) =
 z02.Z37 N a b c d e f g h i j l (fun a b c d e f g h m o i j l=>K .nrm (z4g a b c d e f g h m o i j l)):=by kernel_rfl
theorem f76t41 N a b c d e f g h i j l m o (K:KT ρ):z3c N (z3b 147421591) .n (z4g a b c d e f g h i j l m o) (z00 (some f76l11) K) =
 z02.Z41 N a b c d e f g h i j l m o (fun a b c d e f g h i j p l m o=>K .nrm (zzv a b c d e f g h i j p l m o)):=by kernel_rfl
theorem f76t43 N a b c d e l f g m o p h i j (K:KT ρ):z3c N (z3b 348748183) .n (zzv a b c d e l f g m o p h i j) (z00 (some z3y) K) =
 z02.Z43 N a b c d e l f g m o p h i j (fun a b c d e l f g m o h i j=>K .nrm (z4g a b c d e l f g m o h i j)) (fun a b c d e f g h i j=>K (.exit 4) (z70 a b c d e f g h i j)):=by kernel_rfl
theorem f76t47 N a b c d e f g h i j l m o (K:KT ρ):z3c N (z3b 2362014103) .n (z4g a b c d e f g h i j l m o) (z00 (some f76l12) K) =
 z02.Z47 N a b c d e f g h i j l m o (fun a b c d e f p g h i j l m o=>K .nrm (zzu a b c d e f p g h i j l m o)):=by kernel_rfl
theorem f76t49 N a b c d e f g h i j l m o p (K:KT ρ):z3c N (z3b 5583239575) .n (zzu a b c d e f g h i j l m o p) (z00 (some zts) K) =
 z02.Z49 N a b c d e f g h i j l m o p (fun a b c d e f g q r h i j l m o p=>K .nrm (zoi a b c d e f g q r h i j l m o p)):=by kernel_rfl
theorem f76t51 N a b c d e f p q r g h i j l m o (K:KT ρ):z3c N (z3b 12025690519) .n (zoi a b c d e f p q r g h i j l m o) (z00 (some zts) K) =
 z02.Z51 N a b c d e f p q r g h i j l m o (fun a b c d e f p q r g h i j l m o=>K .nrm (zoi a b c d e f p q r g h i j l m o)) (fun a b c d e f g h i j l m o=>K (.exit 5) (z4g a b c d e f g h i j l m o)):=by kernel_rfl
theorem f76t52 N a b c d e f p q r g h i j l m o (K:KT ρ):z3c N (z3b 16320657815) .n (zoi a b c d e f p q r g h i j l m o) (z00 (some z3y) K) =
 z02.Z52 N a b c d e f p q r g h i j l m o (fun a b c d e f g h i j l m o=>K .nrm (z4g a b c d e f g h i j l m o)) (fun s=>K .ret (z2q s)):=by kernel_rfl
def y04:z0p:=.mk (some zts) none .n .n
theorem f76t50 N a b c d e f p q r g h i j l m o (K:KT ρ):z3c N (z3b 7730723223) y04 (zoi a b c d e f p q r g h i j l m o) (z00 (some z3y) K) =
  z02.Z50 N a b c d e f p q r g h i j l m o (fun a b c d e f g h i j l m o=>K .nrm (z4g a b c d e f g h i j l m o)) (fun a b c d e f g h i j l m o=>K (.exit 5) (z4g a b c d e f g h i j l m o)) (fun s=>K .ret (z2q s)) :=
 z05 (fun k=>z02.Z51 N a b c d e f p q r g h i j l m o k (fun a b c d e f g h i j l m o=>K (.exit 5) (z4g a b c d e f g h i j l m o))) (by kernel_rfl) (f76t51 N (K:=z16 (fun σ=>z3c N (z3b 16320657815) .n σ (z00 (some z3y) K)) (z00 (some z3y) K)) ..) (fx16 fun a b c d e f p q r g h i j l m o=>f76t52 N a b c d e f p q r g h i j l m o K) (by kernel_rfl)
def y05:z0p:=.mk (some zts) none .n y04
theorem f76t48 N a b c d e f p g h i j l m o (K:KT ρ):z3c N (z3b 3435755927) y05 (zzu a b c d e f p g h i j l m o) (z00 (some z3y) K) =
  z02.Z48 N a b c d e f p g h i j l m o (fun a b c d e f g h i j l m o=>K .nrm (z4g a b c d e f g h i j l m o)) (fun a b c d e f g h i j l m o=>K (.exit 5) (z4g a b c d e f g h i j l m o)) (fun q=>K .ret (z2q q)) :=
 z05 (fun k=>z02.Z49 N a b c d e f p g h i j l m o k) (by kernel_rfl) (f76t49 N (K:=z16 (fun σ=>z3c N (z3b 7730723223) y04 σ (z00 (some z3y) K)) (z00 (some z3y) K)) ..) (fx16 fun a b c d e f p r s g h i j l m o=>f76t50 N a b c d e f p r s g h i j l m o K) (by kernel_rfl)
def f76p46:z0p:=.mk (some f76l12) none .n y05
theorem f76t46 N a b c d e f g h i j l m o (K:KT ρ):z3c N (z3b 1288272279) f76p46 (z4g a b c d e f g h i j l m o) (z00 (some z3y) K) =
  z02.Z46 N a b c d e f g h i j l m o (fun a b c d e f g h i j l m o=>K .nrm (z4g a b c d e f g h i j l m o)) (fun a b c d e f g h i j l m o=>K (.exit 5) (z4g a b c d e f g h i j l m o)) (fun p=>K .ret (z2q p)) :=
 z05 (fun k=>z02.Z47 N a b c d e f g h i j l m o k) (by kernel_rfl) (f76t47 N (K:=z16 (fun σ=>z3c N (z3b 3435755927) y05 σ (z00 (some z3y) K)) (z00 (some z3y) K)) ..) (fx14 fun a b c d e f q g h i j l m o=>f76t48 N a b c d e f q g h i j l m o K) (by kernel_rfl)
def f76p45:z0p:=.mk (some z3y) none f76p46 .n
theorem f76t45 N a b c d e f g h i j l m o (K:KT ρ):z3c N (z3b 751401367) f76p45 (z4g a b c d e f g h i j l m o) (z00 (some z3y) K) =
  z02.Z45 N a b c d e f g h i j l m o (fun a b c d e f g h i j l m o=>K .nrm (z4g a b c d e f g h i j l m o)) (fun p=>K .ret (z2q p)) :=
 z0n (by kernel_rfl) (f76t46 N (K:=z1j 5 (z00 (some z3y) K)) ..) (by kernel_rfl)
theorem f76t53 N a b c d e f g h i j l m o (K:KT ρ):z3c N (z3b 1019836823) .n (z4g a b c d e f g h i j l m o) (z00 (some z3y) K) =
 z02.Z53 N a b c d e f g h i j l m o (fun a b c d e f g h i j l m o=>K .nrm (z4g a b c d e f g h i j l m o)):=by kernel_rfl
def y06:z0p:=.mk (some z3y) none f76p45 .n
theorem f76t44 N a b c d e f g h i j l m o (K:KT ρ):z3c N (z3b 482965911) y06 (z4g a b c d e f g h i j l m o) (z00 (some z3y) K) =
  z02.Z44 N a b c d e f g h i j l m o (fun a b c d e f g h i j l m o=>K .nrm (z4g a b c d e f g h i j l m o)) (fun p=>K .ret (z2q p)) :=
 z05 (fun k=>z02.Z45 N a b c d e f g h i j l m o k (fun p=>K .ret (z2q p))) (by kernel_rfl) (f76t45 N (K:=z16 (fun σ=>z3c N (z3b 1019836823) .n σ (z00 (some z3y) K)) (z00 (some z3y) K)) ..) (zvu fun a b c d e f g h i j l m o=>f76t53 N a b c d e f g h i j l m o K) (by kernel_rfl)
def y07:z0p:=.mk (some z3y) none .n y06
theorem f76t42 N a b c d e l f g m o p h i j (K:KT ρ):z3c N (z3b 214530455) y07 (zzv a b c d e l f g m o p h i j) (z00 (some z3y) K) =
  z02.Z42 N a b c d e l f g m o p h i j (fun a b c d e l f g m o h i j=>K .nrm (z4g a b c d e l f g m o h i j)) (fun a b c d e f g h i j=>K (.exit 4) (z70 a b c d e f g h i j)) (fun q=>K .ret (z2q q)) :=
 z05 (fun k=>z02.Z43 N a b c d e l f g m o p h i j k (fun a b c d e f g h i j=>K (.exit 4) (z70 a b c d e f g h i j))) (by kernel_rfl) (f76t43 N (K:=z16 (fun σ=>z3c N (z3b 482965911) y06 σ (z00 (some z3y) K)) (z00 (some z3y) K)) ..) (zvu fun a b c d e l f g m o h i j=>f76t44 N a b c d e l f g m o h i j K) (by kernel_rfl)
def y08:z0p:=.mk (some f76l11) none .n y07
theorem f76t40 N a b c d e l f g m o h i j (K:KT ρ):z3c N (z3b 80312727) y08 (z4g a b c d e l f g m o h i j) (z00 (some z3y) K) =
  z02.Z40 N a b c d e l f g m o h i j (fun a b c d e l f g m o h i j=>K .nrm (z4g a b c d e l f g m o h i j)) (fun a b c d e f g h i j=>K (.exit 4) (z70 a b c d e f g h i j)) (fun p=>K .ret (z2q p)) :=
 z05 (fun k=>z02.Z41 N a b c d e l f g m o h i j k) (by kernel_rfl) (f76t41 N (K:=z16 (fun σ=>z3c N (z3b 214530455) y07 σ (z00 (some z3y) K)) (z00 (some z3y) K)) ..) (fx14 fun a b c d e l f g m o q h i j=>f76t42 N a b c d e l f g m o q h i j K) (by kernel_rfl)
def f76p39:z0p:=.mk none (some z3y) y08 .n
abbrev f76w39 {ρ:Type} (N M:Nat) (σ:St) (K:KT ρ):Option ρ:=z2r (fun σ K=>z3c N (z3b 80312727) y08 σ K) z3y M σ K
theorem zzr {ρ:Type} (N:Nat) (K:KT ρ):∀ (M:Nat) (a b c d:LI) (e l f g m o h i:Int) (j:LI),f76w39 N M (z4g a b c d e l f g m o h i j) K =
 z02.Z39L N (fun a b c d e f g h i j=>K (.exit 4) (z70 a b c d e f g h i j)) (fun p=>K .ret (z2q p)) M a b c d e l f g m o h i j
 | 0,_,_,_,_,_,_,_,_,_,_,_,_,_=>rfl
 | M + 1,a,b,c,d,e,l,f,g,m,o,h,i,j=>z12 (fun k=>z02.Z40 N a b c d e l f g m o h i j k (fun a b c d e f g h i j=>K (.exit 4) (z70 a b c d e f g h i j)) (fun p=>K .ret (z2q p))) (f76t40 N (K:=z16 (fun σ=>f76w39 N M σ K) K) ..) (zvu fun a b c d e l f g m o h i j=>zzr N K M a b c d e l f g m o h i j) (by kernel_rfl)
theorem f76t39 N a b c d e l f g m o h i j (K:KT ρ):z3c N (z3b 46758295) f76p39 (z4g a b c d e l f g m o h i j) (z00 (some z65) K) =
  z02.Z39 N a b c d e l f g m o h i j (fun a b c d e f g h i j=>K (.exit 4) (z70 a b c d e f g h i j)) (fun p=>K .ret (z2q p)) :=
 z1d (by kernel_rfl) (zzr N (z00 (some z65) K) N a b c d e l f g m o h i j) (by kernel_rfl)
def y09:z0p:=.mk (some z65) none f76p39 .n
theorem f76t38 N a b c d e l f g m o h i j (K:KT ρ):z3c N (z3b 29981079) y09 (z4g a b c d e l f g m o h i j) (z00 (some z65) K) =
  z02.Z38 N a b c d e l f g m o h i j (fun a b c d e f g h i j=>K .nrm (z70 a b c d e f g h i j)) (fun p=>K .ret (z2q p)) :=
 z0n (by kernel_rfl) (f76t39 N (K:=z1j 4 (z00 (some z65) K)) ..) (by kernel_rfl)
def y0a:z0p:=.mk (some z3y) none .n y09
theorem f76t36 N a b c d e l f g h i j (K:KT ρ):z3c N (z3b 13203863) y0a (f76s9 a b c d e l f g h i j) (z00 (some z65) K) =
  z02.Z36 N a b c d e l f g h i j (fun a b c d e f g h i j=>K .nrm (z70 a b c d e f g h i j)) (fun m=>K .ret (z2q m)) :=
 z05 (fun k=>z02.Z37 N a b c d e l f g h i j k) (by kernel_rfl) (f76t37 N (K:=z16 (fun σ=>z3c N (z3b 29981079) y09 σ (z00 (some z65) K)) (z00 (some z65) K)) ..) (zvu fun a b c d e l f g o p h i j=>f76t38 N a b c d e l f g o p h i j K) (by kernel_rfl)
def f76p34:z0p:=.mk (some f76l9) none .n y0a
theorem f76t34 N a b c d e f g h i j (K:KT ρ):z3c N (z3b 4815255) f76p34 (z70 a b c d e f g h i j) (z00 (some z65) K) =
  z02.Z34 N a b c d e f g h i j (fun a b c d e f g h i j=>K .nrm (z70 a b c d e f g h i j)) (fun l=>K .ret (z2q l)) :=
 z05 (fun k=>z02.Z35 N a b c d e f g h i j k) (by kernel_rfl) (f76t35 N (K:=z16 (fun σ=>z3c N (z3b 13203863) y0a σ (z00 (some z65) K)) (z00 (some z65) K)) ..) (zk5 fun a b c d e m f g h i j=>f76t36 N a b c d e m f g h i j K) (by kernel_rfl)
def f76p33:z0p:=.mk (some z65) none f76p34 .n
theorem f76t33 N a b c d e f g h i j (K:KT ρ):z3c N (z3b 2718103) f76p33 (z70 a b c d e f g h i j) (z00 (some z65) K) =
  z02.Z33 N a b c d e f g h i j (fun a b c d e f g h i j=>K .nrm (z70 a b c d e f g h i j)) (fun l=>K .ret (z2q l)) :=
 z0n (by kernel_rfl) (f76t34 N (K:=z1j 3 (z00 (some z65) K)) ..) (by kernel_rfl)
theorem f76t54 N a b c d e f g h i j (K:KT ρ):z3c N (z3b 3766679) .n (z70 a b c d e f g h i j) (z00 (some z65) K) =
 z02.Z54 N a b c d e f g h i j (fun a b c d e f g h i j=>K .nrm (z70 a b c d e f g h i j)):=by kernel_rfl
def y0b:z0p:=.mk (some z65) none f76p33 .n
theorem f76t32 N a b c d e f g h i j (K:KT ρ):z3c N (z3b 1669527) y0b (z70 a b c d e f g h i j) (z00 (some z65) K) =
  z02.Z32 N a b c d e f g h i j (fun a b c d e f g h i j=>K .nrm (z70 a b c d e f g h i j)) (fun l=>K .ret (z2q l)) :=
 z05 (fun k=>z02.Z33 N a b c d e f g h i j k (fun l=>K .ret (z2q l))) (by kernel_rfl) (f76t33 N (K:=z16 (fun σ=>z3c N (z3b 3766679) .n σ (z00 (some z65) K)) (z00 (some z65) K)) ..) (zb5 fun a b c d e f g h i j=>f76t54 N a b c d e f g h i j K) (by kernel_rfl)
def y0c:z0p:=.mk (some z65) none .n y0b
theorem f76t30 N a b c d j e f g h i (K:KT ρ):z3c N (z3b 620951) y0c (z70 a b c d j e f g h i) (z00 (some z65) K) =
  z02.Z30 N a b c d j e f g h i (fun a b c d j e f g h i=>K .nrm (z70 a b c d j e f g h i)) (fun a b c d e f g h i=>K (.exit 2) (zdq a b c d e f g h i)) (fun l=>K .ret (z2q l)) :=
 z05 (fun k=>z02.Z31 N a b c d j e f g h i k (fun a b c d e f g h i=>K (.exit 2) (zdq a b c d e f g h i))) (by kernel_rfl) (f76t31 N (K:=z16 (fun σ=>z3c N (z3b 1669527) y0b σ (z00 (some z65) K)) (z00 (some z65) K)) ..) (zb5 fun a b c d j e f g h i=>f76t32 N a b c d j e f g h i K) (by kernel_rfl)
def f76p29:z0p:=.mk none (some z65) y0c .n
abbrev f76w29 {ρ:Type} (N M:Nat) (σ:St) (K:KT ρ):Option ρ:=z2r (fun σ K=>z3c N (z3b 620951) y0c σ K) z65 M σ K
theorem zzs {ρ:Type} (N:Nat) (K:KT ρ):∀ (M:Nat) (a b c d:LI) (j e f g h:Int) (i:LI),f76w29 N M (z70 a b c d j e f g h i) K =
 z02.Z29L N (fun a b c d e f g h i=>K (.exit 2) (zdq a b c d e f g h i)) (fun l=>K .ret (z2q l)) M a b c d j e f g h i
 | 0,_,_,_,_,_,_,_,_,_,_=>rfl
 | M + 1,a,b,c,d,j,e,f,g,h,i=>z12 (fun k=>z02.Z30 N a b c d j e f g h i k (fun a b c d e f g h i=>K (.exit 2) (zdq a b c d e f g h i)) (fun l=>K .ret (z2q l))) (f76t30 N (K:=z16 (fun σ=>f76w29 N M σ K) K) ..) (zb5 fun a b c d j e f g h i=>zzs N K M a b c d j e f g h i) (by kernel_rfl)
theorem f76t29 N a b c d j e f g h i (K:KT ρ):z3c N (z3b 358807) f76p29 (z70 a b c d j e f g h i) (z00 (some zft) K) =
  z02.Z29 N a b c d j e f g h i (fun a b c d e f g h i=>K (.exit 2) (zdq a b c d e f g h i)) (fun l=>K .ret (z2q l)) :=
 z1d (by kernel_rfl) (zzs N (z00 (some zft) K) N a b c d j e f g h i) (by kernel_rfl)
def y0d:z0p:=.mk (some zft) none f76p29 .n
theorem f76t28 N a b c d j e f g h i (K:KT ρ):z3c N (z3b 227735) y0d (z70 a b c d j e f g h i) (z00 (some zft) K) =
  z02.Z28 N a b c d j e f g h i (fun a b c d e f g h i=>K .nrm (zdq a b c d e f g h i)) (fun l=>K .ret (z2q l)) :=
 z0n (by kernel_rfl) (f76t29 N (K:=z1j 2 (z00 (some zft) K)) ..) (by kernel_rfl)
def f76p26:z0p:=.mk (some z65) none .n y0d
theorem f76t26 N a b c d e f g h i (K:KT ρ):z3c N (z3b 96663) f76p26 (zdq a b c d e f g h i) (z00 (some zft) K) =
  z02.Z26 N a b c d e f g h i (fun a b c d e f g h i=>K .nrm (zdq a b c d e f g h i)) (fun j=>K .ret (z2q j)) :=
 z05 (fun k=>z02.Z27 N a b c d e f g h i k) (by kernel_rfl) (f76t27 N (K:=z16 (fun σ=>z3c N (z3b 227735) y0d σ (z00 (some zft) K)) (z00 (some zft) K)) ..) (zb5 fun a b c d l e f g h i=>f76t28 N a b c d l e f g h i K) (by kernel_rfl)
theorem f76t56 N a b c d e f g h i (K:KT ρ):z3c N (z3b 194967) .n (zdq a b c d e f g h i) (z00 (some z9o) K) =
 z02.Z56 N a b c d e f g h i (fun a b c d j e f g h i=>K .nrm (z9n a b c d j e f g h i)):=by kernel_rfl
theorem f76t59 N a b c d e f g h i j (K:KT ρ):z3c N (z3b 653719) .n (z9n a b c d e f g h i j) (z00 (some zol) K) =
 z02.Z59 N a b c d e f g h i j (fun a b c d e f g l m h i j=>K .nrm (zkb a b c d e f g l m h i j)):=by kernel_rfl
theorem f76t62 N a b c d e f g l m h i j (K:KT ρ):z3c N (z3b 2488727) .n (zkb a b c d e f g l m h i j) (z00 (some zol) K) =
 z02.Z62 N a b c d e f g l m h i j (fun a b c d e f g l m h i j=>K .nrm (zkb a b c d e f g l m h i j)) (fun a b c d e f g h i j=>K (.exit 6) (z9n a b c d e f g h i j)):=by kernel_rfl
def f76p61:z0p:=.mk none (some zol) .n .n
abbrev f76w61 {ρ:Type} (N M:Nat) (σ:St) (K:KT ρ):Option ρ:=z2r (fun σ K=>z3c N (z3b 2488727) .n σ K) zol M σ K
theorem zzq {ρ:Type} (N:Nat) (K:KT ρ):∀ (M:Nat) (a b c d:LI) (e f g l m h i:Int) (j:LI),f76w61 N M (zkb a b c d e f g l m h i j) K =
 z02.Z61L N (fun a b c d e f g h i j=>K (.exit 6) (z9n a b c d e f g h i j)) M a b c d e f g l m h i j
 | 0,_,_,_,_,_,_,_,_,_,_,_,_=>rfl
 | M + 1,a,b,c,d,e,f,g,l,m,h,i,j=>z12 (fun k=>z02.Z62 N a b c d e f g l m h i j k (fun a b c d e f g h i j=>K (.exit 6) (z9n a b c d e f g h i j))) (f76t62 N (K:=z16 (fun σ=>f76w61 N M σ K) K) ..) (ztk fun a b c d e f g l m h i j=>zzq N K M a b c d e f g l m h i j) (by kernel_rfl)
theorem f76t61 N a b c d e f g l m h i j (K:KT ρ):z3c N (z3b 1440151) f76p61 (zkb a b c d e f g l m h i j) (z00 (some z9o) K) =
  z02.Z61 N a b c d e f g l m h i j (fun a b c d e f g h i j=>K (.exit 6) (z9n a b c d e f g h i j)) :=
 z1d (by kernel_rfl) (zzq N (z00 (some z9o) K) N a b c d e f g l m h i j) (by kernel_rfl)
def y01:z0p:=.mk (some z9o) none f76p61 .n
theorem f76t60 N a b c d e f g l m h i j (K:KT ρ):z3c N (z3b 915863) y01 (zkb a b c d e f g l m h i j) (z00 (some z9o) K) =
  z02.Z60 N a b c d e f g l m h i j (fun a b c d e f g h i j=>K .nrm (z9n a b c d e f g h i j)) :=
 z0n (by kernel_rfl) (f76t61 N (K:=z1j 6 (z00 (some z9o) K)) ..) (by kernel_rfl)
def f76p58:z0p:=.mk (some zol) none .n y01
theorem f76t58 N a b c d e f g h i j (K:KT ρ):z3c N (z3b 391575) f76p58 (z9n a b c d e f g h i j) (z00 (some z9o) K) =
  z02.Z58 N a b c d e f g h i j (fun a b c d e f g h i j=>K .nrm (z9n a b c d e f g h i j)) :=
 z05 (fun k=>z02.Z59 N a b c d e f g h i j k) (by kernel_rfl) (f76t59 N (K:=z16 (fun σ=>z3c N (z3b 915863) y01 σ (z00 (some z9o) K)) (z00 (some z9o) K)) ..) (ztk fun a b c d e f g l m h i j=>f76t60 N a b c d e f g l m h i j K) (by kernel_rfl)
theorem f76t64 N a b c d e f g h i j (K:KT ρ):z3c N (z3b 784791) .n (z9n a b c d e f g h i j) (z00 (some f76l16) K) =
 z02.Z64 N a b c d e f g h i j (fun a b c d e l f g h i j=>K .nrm (ztr a b c d e l f g h i j)):=by kernel_rfl
theorem f76t67 N a b c d e f g h i j l (K:KT ρ):z3c N (z3b 2619799) .n (ztr a b c d e f g h i j l) (z00 (some zok) K) =
 z02.Z67 N a b c d e f g h i j l (fun a b c d e f g h m o i j l=>K .nrm (zka a b c d e f g h m o i j l)):=by kernel_rfl
theorem f76t70 N a b c d l e f g m o h i j (K:KT ρ):z3c N (z3b 9959831) .n (zka a b c d l e f g m o h i j) (z00 (some zok) K) =
 z02.Z70 N a b c d l e f g m o h i j (fun a b c d l e f g m o h i j=>K .nrm (zka a b c d l e f g m o h i j)) (fun a b c d e f g h i j=>K (.exit 8) (zfd a b c d e f g h i j)):=by kernel_rfl
def f76p69:z0p:=.mk none (some zok) .n .n
abbrev f76w69 {ρ:Type} (N M:Nat) (σ:St) (K:KT ρ):Option ρ:=z2r (fun σ K=>z3c N (z3b 9959831) .n σ K) zok M σ K
theorem zzp {ρ:Type} (N:Nat) (K:KT ρ):∀ (M:Nat) (a b c d:LI) (l e f g m o h i:Int) (j:LI),f76w69 N M (zka a b c d l e f g m o h i j) K =
 z02.Z69L N (fun a b c d e f g h i j=>K (.exit 8) (zfd a b c d e f g h i j)) M a b c d l e f g m o h i j
 | 0,_,_,_,_,_,_,_,_,_,_,_,_,_=>rfl
 | M + 1,a,b,c,d,l,e,f,g,m,o,h,i,j=>z12 (fun k=>z02.Z70 N a b c d l e f g m o h i j k (fun a b c d e f g h i j=>K (.exit 8) (zfd a b c d e f g h i j))) (f76t70 N (K:=z16 (fun σ=>f76w69 N M σ K) K) ..) (zvu fun a b c d l e f g m o h i j=>zzp N K M a b c d l e f g m o h i j) (by kernel_rfl)
theorem f76t69 N a b c d l e f g m o h i j (K:KT ρ):z3c N (z3b 5765527) f76p69 (zka a b c d l e f g m o h i j) (z00 (some zbi) K) =
  z02.Z69 N a b c d l e f g m o h i j (fun a b c d e f g h i j=>K (.exit 8) (zfd a b c d e f g h i j)) :=
 z1d (by kernel_rfl) (zzp N (z00 (some zbi) K) N a b c d l e f g m o h i j) (by kernel_rfl)
def zzy:z0p:=.mk (some zbi) none f76p69 .n
theorem f76t68 N a b c d l e f g m o h i j (K:KT ρ):z3c N (z3b 3668375) zzy (zka a b c d l e f g m o h i j) (z00 (some zbi) K) =
  z02.Z68 N a b c d l e f g m o h i j (fun a b c d e f g h i j=>K .nrm (zfd a b c d e f g h i j)) :=
 z0n (by kernel_rfl) (f76t69 N (K:=z1j 8 (z00 (some zbi) K)) ..) (by kernel_rfl)
def f76p66:z0p:=.mk (some zok) none .n zzy
theorem f76t66 N a b c d l e f g h i j (K:KT ρ):z3c N (z3b 1571223) f76p66 (ztr a b c d l e f g h i j) (z00 (some zbi) K) =
  z02.Z66 N a b c d l e f g h i j (fun a b c d e f g h i j=>K .nrm (zfd a b c d e f g h i j)) :=
 z05 (fun k=>z02.Z67 N a b c d l e f g h i j k) (by kernel_rfl) (f76t67 N (K:=z16 (fun σ=>z3c N (z3b 3668375) zzy σ (z00 (some zbi) K)) (z00 (some zbi) K)) ..) (zvu fun a b c d l e f g m o h i j=>f76t68 N a b c d l e f g m o h i j K) (by kernel_rfl)
theorem f76t72 N a b c j d e f g h i (K:KT ρ):z3c N (z3b 3144087) .n (zfd a b c j d e f g h i) (z00 (some zoj) K) =
 z02.Z72 N a b c j d e f g h i (fun a b c l d e f m o g h i=>K .nrm (zk9 a b c l d e f m o g h i)):=by kernel_rfl
theorem f76t75 N a b c i j d e l m f g h (K:KT ρ):z3c N (z3b 10484119) .n (zk9 a b c i j d e l m f g h) (z00 (some zoj) K) =
 z02.Z75 N a b c i j d e l m f g h (fun a b c i j d e l m f g h=>K .nrm (zk9 a b c i j d e l m f g h)) (fun a b c d e f g h=>K (.exit 10) (z4r a b c d e f g h)):=by kernel_rfl
def f76p74:z0p:=.mk none (some zoj) .n .n
abbrev f76w74 {ρ:Type} (N M:Nat) (σ:St) (K:KT ρ):Option ρ:=z2r (fun σ K=>z3c N (z3b 10484119) .n σ K) zoj M σ K
theorem zzo {ρ:Type} (N:Nat) (K:KT ρ):∀ (M:Nat) (a b c i:LI) (j d e l m f g:Int) (h:LI),f76w74 N M (zk9 a b c i j d e l m f g h) K =
 z02.Z74L N (fun a b c d e f g h=>K (.exit 10) (z4r a b c d e f g h)) M a b c i j d e l m f g h
 | 0,_,_,_,_,_,_,_,_,_,_,_,_=>rfl
 | M + 1,a,b,c,i,j,d,e,l,m,f,g,h=>z12 (fun k=>z02.Z75 N a b c i j d e l m f g h k (fun a b c d e f g h=>K (.exit 10) (z4r a b c d e f g h))) (f76t75 N (K:=z16 (fun σ=>f76w74 N M σ K) K) ..) (ztk fun a b c i j d e l m f g h=>zzo N K M a b c i j d e l m f g h) (by kernel_rfl)
theorem f76t74 N a b c i j d e l m f g h (K:KT ρ):z3c N (z3b 6289815) f76p74 (zk9 a b c i j d e l m f g h) (z00 (some z3e) K) =
  z02.Z74 N a b c i j d e l m f g h (fun a b c d e f g h=>K (.exit 10) (z4r a b c d e f g h)) :=
 z1d (by kernel_rfl) (zzo N (z00 (some z3e) K) N a b c i j d e l m f g h) (by kernel_rfl)
def zzw:z0p:=.mk (some z3e) none f76p74 .n
theorem f76t73 N a b c i j d e l m f g h (K:KT ρ):z3c N (z3b 4192663) zzw (zk9 a b c i j d e l m f g h) (z00 (some z3e) K) =
  z02.Z73 N a b c i j d e l m f g h (fun a b c d e f g h=>K .nrm (z4r a b c d e f g h)) :=
 z0n (by kernel_rfl) (f76t74 N (K:=z1j 10 (z00 (some z3e) K)) ..) (by kernel_rfl)
def zzx:z0p:=.mk (some zoj) none .n zzw
theorem f76t71 N a b c j i d e f g h (K:KT ρ):z3c N (z3b 2095511) zzx (zfd a b c j i d e f g h) (z00 (some z3e) K) =
  z02.Z71 N a b c j i d e f g h (fun a b c d e f g h=>K .nrm (z4r a b c d e f g h)) :=
 z05 (fun k=>z02.Z72 N a b c j i d e f g h k) (by kernel_rfl) (f76t72 N (K:=z16 (fun σ=>z3c N (z3b 4192663) zzw σ (z00 (some z3e) K)) (z00 (some z3e) K)) ..) (ztk fun a b c l i d e m o f g h=>f76t73 N a b c l i d e m o f g h K) (by kernel_rfl)
def zzz:z0p:=.mk (some zbi) none f76p66 zzx
theorem f76t65 N a b c i l j d e f g h (K:KT ρ):z3c N (z3b 1046935) zzz (ztr a b c i l j d e f g h) (z00 (some z3e) K) =
  z02.Z65 N a b c i l j d e f g h (fun a b c d e f g h=>K .nrm (z4r a b c d e f g h)) :=
 z05 (fun k=>z02.Z66 N a b c i l j d e f g h k) (by kernel_rfl) (f76t66 N (K:=z16 (fun σ=>z3c N (z3b 2095511) zzx σ (z00 (some z3e) K)) (z00 (some z3e) K)) ..) (zb5 fun a b c i j d e f g h=>f76t71 N a b c i j d e f g h K) (by kernel_rfl)
def y00:z0p:=.mk (some f76l16) none .n zzz
theorem f76t63 N a b c i j d e f g h (K:KT ρ):z3c N (z3b 522647) y00 (z9n a b c i j d e f g h) (z00 (some z3e) K) =
  z02.Z63 N a b c i j d e f g h (fun a b c d e f g h=>K .nrm (z4r a b c d e f g h)) :=
 z05 (fun k=>z02.Z64 N a b c i j d e f g h k) (by kernel_rfl) (f76t64 N (K:=z16 (fun σ=>z3c N (z3b 1046935) zzz σ (z00 (some z3e) K)) (z00 (some z3e) K)) ..) (zk5 fun a b c i j l d e f g h=>f76t65 N a b c i j l d e f g h K) (by kernel_rfl)
def y02:z0p:=.mk (some z9o) none f76p58 y00
theorem f76t57 N a b c i j d e f g h (K:KT ρ):z3c N (z3b 260503) y02 (z9n a b c i j d e f g h) (z00 (some z3e) K) =
  z02.Z57 N a b c i j d e f g h (fun a b c d e f g h=>K .nrm (z4r a b c d e f g h)) :=
 z05 (fun k=>z02.Z58 N a b c i j d e f g h k) (by kernel_rfl) (f76t58 N (K:=z16 (fun σ=>z3c N (z3b 522647) y00 σ (z00 (some z3e) K)) (z00 (some z3e) K)) ..) (zb5 fun a b c i j d e f g h=>f76t63 N a b c i j d e f g h K) (by kernel_rfl)
def y03:z0p:=.mk (some z9o) none .n y02
theorem f76t55 N a b c i d e f g h (K:KT ρ):z3c N (z3b 129431) y03 (zdq a b c i d e f g h) (z00 (some z3e) K) =
  z02.Z55 N a b c i d e f g h (fun a b c d e f g h=>K .nrm (z4r a b c d e f g h)) :=
 z05 (fun k=>z02.Z56 N a b c i d e f g h k) (by kernel_rfl) (f76t56 N (K:=z16 (fun σ=>z3c N (z3b 260503) y02 σ (z00 (some z3e) K)) (z00 (some z3e) K)) ..) (zb5 fun a b c i j d e f g h=>f76t57 N a b c i j d e f g h K) (by kernel_rfl)
def y0e:z0p:=.mk (some zft) none f76p26 y03
theorem f76t25 N a b c i d e f g h (K:KT ρ):z3c N (z3b 63895) y0e (zdq a b c i d e f g h) (z00 (some z3e) K) =
  z02.Z25 N a b c i d e f g h (fun a b c d e f g h=>K .nrm (z4r a b c d e f g h)) (fun j=>K .ret (z2q j)) :=
 z05 (fun k=>z02.Z26 N a b c i d e f g h k (fun j=>K .ret (z2q j))) (by kernel_rfl) (f76t26 N (K:=z16 (fun σ=>z3c N (z3b 129431) y03 σ (z00 (some z3e) K)) (z00 (some z3e) K)) ..) (fx9 fun a b c i d e f g h=>f76t55 N a b c i d e f g h K) (by kernel_rfl)
def y0f:z0p:=.mk (some zft) none .n y0e
theorem f76t23 N a b c i d e f g h (K:KT ρ):z3c N (z3b 31127) y0f (zm0 a b c i d e f g h) (z00 (some z3e) K) =
  z02.Z23 N a b c i d e f g h (fun a b c d e f g h=>K .nrm (z4r a b c d e f g h)) (fun j=>K .ret (z2q j)) :=
 z05 (fun k=>z02.Z24 N a b c i d e f g h k) (by kernel_rfl) (f76t24 N (K:=z16 (fun σ=>z3c N (z3b 63895) y0e σ (z00 (some z3e) K)) (z00 (some z3e) K)) ..) (fx9 fun a b c l d e f g h=>f76t25 N a b c l d e f g h K) (by kernel_rfl)
def y0g:z0p:=.mk (some zw3) none .n y0f
theorem f76t21 N a b c i d e f g h (K:KT ρ):z3c N (z3b 14743) y0g (zm0 a b c i d e f g h) (z00 (some z3e) K) =
  z02.Z21 N a b c i d e f g h (fun a b c d e f g h=>K .nrm (z4r a b c d e f g h)) (fun j=>K .ret (z2q j)) :=
 z05 (fun k=>z02.Z22 N a b c i d e f g h k) (by kernel_rfl) (f76t22 N (K:=z16 (fun σ=>z3c N (z3b 31127) y0f σ (z00 (some z3e) K)) (z00 (some z3e) K)) ..) (fx9 fun a b c i d e f g h=>f76t23 N a b c i d e f g h K) (by kernel_rfl)
def y0h:z0p:=.mk (some zw3) none .n y0g
theorem f76t19 N a b c i d e f g h (K:KT ρ):z3c N (z3b 6551) y0h (zm0 a b c i d e f g h) (z00 (some z3e) K) =
  z02.Z19 N a b c i d e f g h (fun a b c d e f g h=>K .nrm (z4r a b c d e f g h)) (fun a b c d e f g h=>K (.exit 1) (z4r a b c d e f g h)) (fun j=>K .ret (z2q j)) :=
 z05 (fun k=>z02.Z20 N a b c i d e f g h k (fun a b c d e f g h=>K (.exit 1) (z4r a b c d e f g h))) (by kernel_rfl) (f76t20 N (K:=z16 (fun σ=>z3c N (z3b 14743) y0g σ (z00 (some z3e) K)) (z00 (some z3e) K)) ..) (fx9 fun a b c i d e f g h=>f76t21 N a b c i d e f g h K) (by kernel_rfl)
def f76p17:z0p:=.mk (some zw3) none .n y0h
theorem f76t17 N a b c d e f g h (K:KT ρ):z3c N (z3b 2455) f76p17 (z4r a b c d e f g h) (z00 (some z3e) K) =
  z02.Z17 N a b c d e f g h (fun a b c d e f g h=>K .nrm (z4r a b c d e f g h)) (fun a b c d e f g h=>K (.exit 1) (z4r a b c d e f g h)) (fun i=>K .ret (z2q i)) :=
 z05 (fun k=>z02.Z18 N a b c d e f g h k) (by kernel_rfl) (f76t18 N (K:=z16 (fun σ=>z3c N (z3b 6551) y0h σ (z00 (some z3e) K)) (z00 (some z3e) K)) ..) (fx9 fun a b c j d e f g h=>f76t19 N a b c j d e f g h K) (by kernel_rfl)
def f76p16:z0p:=.mk (some z3e) none f76p17 .n
theorem f76t16 N a b c d e f g h (K:KT ρ):z3c N (z3b 1431) f76p16 (z4r a b c d e f g h) (z00 (some z3e) K) =
  z02.Z16 N a b c d e f g h (fun a b c d e f g h=>K .nrm (z4r a b c d e f g h)) (fun i=>K .ret (z2q i)) :=
 z0n (by kernel_rfl) (f76t17 N (K:=z1j 1 (z00 (some z3e) K)) ..) (by kernel_rfl)
theorem f76t76 N a b c d e f g h (K:KT ρ):z3c N (z3b 1943) .n (z4r a b c d e f g h) (z00 (some z3e) K) =
 z02.Z76 N a b c d e f g h (fun a b c d e f g h=>K .nrm (z4r a b c d e f g h)):=by kernel_rfl
def y0i:z0p:=.mk (some z3e) none f76p16 .n
theorem f76t15 N a b c d e f g h (K:KT ρ):z3c N (z3b 919) y0i (z4r a b c d e f g h) (z00 (some z3e) K) =
  z02.Z15 N a b c d e f g h (fun a b c d e f g h=>K .nrm (z4r a b c d e f g h)) (fun i=>K .ret (z2q i)) :=
 z05 (fun k=>z02.Z16 N a b c d e f g h k (fun i=>K .ret (z2q i))) (by kernel_rfl) (f76t16 N (K:=z16 (fun σ=>z3c N (z3b 1943) .n σ (z00 (some z3e) K)) (z00 (some z3e) K)) ..) (fx8 fun a b c d e f g h=>f76t76 N a b c d e f g h K) (by kernel_rfl)
def y0j:z0p:=.mk (some z3e) none .n y0i
theorem f76t13 N b c a d e i f g h (K:KT ρ):z3c N (z3b 407) y0j (f76s5 b c a d e i f g h) (z00 (some z3e) K) =
  z02.Z13 N b c a d e i f g h (fun b c a d e f g h=>K .nrm (z4r b c a d e f g h)) (fun a=>K (.exit 0) (zbg a)) (fun j=>K .ret (z2q j)) :=
 z05 (fun k=>z02.Z14 N b c a d e i f g h k (fun a=>K (.exit 0) (zbg a))) (by kernel_rfl) (f76t14 N (K:=z16 (fun σ=>z3c N (z3b 919) y0i σ (z00 (some z3e) K)) (z00 (some z3e) K)) ..) (fx8 fun b c a d e f g h=>f76t15 N b c a d e f g h K) (by kernel_rfl)
def y0k:z0p:=.mk (some f76l5) none .n y0j
theorem f76t11 N b c a d e f g h (K:KT ρ):z3c N (z3b 151) y0k (z4r b c a d e f g h) (z00 (some z3e) K) =
  z02.Z11 N b c a d e f g h (fun b c a d e f g h=>K .nrm (z4r b c a d e f g h)) (fun a=>K (.exit 0) (zbg a)) (fun i=>K .ret (z2q i)) :=
 z05 (fun k=>z02.Z12 N b c a d e f g h k) (by kernel_rfl) (f76t12 N (K:=z16 (fun σ=>z3c N (z3b 407) y0j σ (z00 (some z3e) K)) (z00 (some z3e) K)) ..) (fx9 fun b c a d e j f g h=>f76t13 N b c a d e j f g h K) (by kernel_rfl)
def f76p10:z0p:=.mk none (some z3e) y0k .n
abbrev f76w10 {ρ:Type} (N M:Nat) (σ:St) (K:KT ρ):Option ρ:=z2r (fun σ K=>z3c N (z3b 151) y0k σ K) z3e M σ K
theorem zzt {ρ:Type} (N:Nat) (K:KT ρ):∀ (M:Nat) (b c a:LI) (d e f g:Int) (h:LI),f76w10 N M (z4r b c a d e f g h) K =
 z02.Z10L N (fun a=>K (.exit 0) (zbg a)) (fun i=>K .ret (z2q i)) M b c a d e f g h
 | 0,_,_,_,_,_,_,_,_=>rfl
 | M + 1,b,c,a,d,e,f,g,h=>z12 (fun k=>z02.Z11 N b c a d e f g h k (fun a=>K (.exit 0) (zbg a)) (fun i=>K .ret (z2q i))) (f76t11 N (K:=z16 (fun σ=>f76w10 N M σ K) K) ..) (fx8 fun b c a d e f g h=>zzt N K M b c a d e f g h) (by kernel_rfl)
theorem f76t10 N b c a d e f g h (K:KT ρ):z3c N (z3b 87) f76p10 (z4r b c a d e f g h) (z00 (some zbh) K) =
  z02.Z10 N b c a d e f g h (fun a=>K (.exit 0) (zbg a)) (fun i=>K .ret (z2q i)) :=
 z1d (by kernel_rfl) (zzt N (z00 (some zbh) K) N b c a d e f g h) (by kernel_rfl)
def f76p9:z0p:=.mk (some zbh) none f76p10 .n
theorem f76t9 N b c a d e f g h (K:KT ρ):z3c N (z3b 55) f76p9 (z4r b c a d e f g h) (z00 (some zbh) K) =
  z02.Z9 N b c a d e f g h (fun a=>K .nrm (zbg a)) (fun i=>K .ret (z2q i)) :=
 z0n (by kernel_rfl) (f76t10 N (K:=z1j 0 (z00 (some zbh) K)) ..) (by kernel_rfl)
def f76p7:z0p:=.mk (some z3e) none .n f76p9
theorem f76t7 N b c a d e f (K:KT ρ):z3c N (z3b 23) f76p7 (f76s3 b c a d e f) (z00 (some zbh) K) =
  z02.Z7 N b c a d e f (fun a=>K .nrm (zbg a)) (fun g=>K .ret (z2q g)) :=
 z05 (fun k=>z02.Z8 N b c a d e f k) (by kernel_rfl) (f76t8 N (K:=z16 (fun σ=>z3c N (z3b 55) f76p9 σ (z00 (some zbh) K)) (z00 (some zbh) K)) ..) (fx8 fun b c a h i d e f=>f76t9 N b c a h i d e f K) (by kernel_rfl)
theorem f76t77 N a (K:KT ρ):z3c N (z3b 31) .n (zbg a) (z00 (some zci) K) =
 z02.Z77 N a (fun b=>K .ret (z2q b)):=by kernel_rfl
def f76p6:z0p:=.mk (some zbh) none f76p7 .n
theorem f76t6 N b c a d e f (K:KT ρ):z3c N (z3b 15) f76p6 (f76s3 b c a d e f) (z00 (some zci) K) =
  z02.Z6 N b c a d e f (fun g=>K .ret (z2q g)) :=
 z05 (fun k=>z02.Z7 N b c a d e f k (fun g=>K .ret (z2q g))) (by kernel_rfl) (f76t7 N (K:=z16 (fun σ=>z3c N (z3b 31) .n σ (z00 (some zci) K)) (z00 (some zci) K)) ..) (funext fun a=>f76t77 N a K) (by kernel_rfl)
def f76p4:z0p:=.mk (some f76l3) none .n f76p6
theorem f76t4 N a b c d e (K:KT ρ):z3c N (z3b 7) f76p4 (f76s2 a b c d e) (z00 (some zci) K) =
  z02.Z4 N a b c d e (fun f=>K .ret (z2q f)) :=
 z05 (fun k=>z02.Z5 N a b c d e k) (by kernel_rfl) (f76t5 N (K:=z16 (fun σ=>z3c N (z3b 15) f76p6 σ (z00 (some zci) K)) (z00 (some zci) K)) ..) (fx6 fun a b g c d e=>f76t6 N a b g c d e K) (by kernel_rfl)
def f76p2:z0p:=.mk (some f76l2) none .n f76p4
theorem f76t2 N a b c (K:KT ρ):z3c N (z3b 3) f76p2 (f76s1 a b c) (z00 (some zci) K) =
  z02.Z2 N a b c (fun d=>K .ret (z2q d)) :=
 z05 (fun k=>z02.Z3 N a b c k) (by kernel_rfl) (f76t3 N (K:=z16 (fun σ=>z3c N (z3b 7) f76p4 σ (z00 (some zci) K)) (z00 (some zci) K)) ..) (fx5 fun e f a b c=>f76t4 N e f a b c K) (by kernel_rfl)
def f76p0:z0p:=.mk (some f76l1) none .n f76p2
theorem f76t0 N a (K:KT ρ):z3c N (z3b 1) f76p0 (f76s0 a) (z00 (some zci) K) =
  z02.Z0 N a (fun b=>K .ret (z2q b)) :=
 z05 (fun k=>z02.Z1 N a k) (by kernel_rfl) (f76t1 N (K:=z16 (fun σ=>z3c N (z3b 3) f76p2 σ (z00 (some zci) K)) (z00 (some zci) K)) ..) (fx3 fun c d e=>f76t2 N c d e K) (by kernel_rfl)
theorem f76m (N:Nat) (a:MT):z3c N (z3b 1) f76p0 (f76s0 a) (z00 (some zci) (z3o tab zoh Try.f76.results.toList)) = z02.Z0 N a (fun b=>some ((),(b,()))) :=
 (f76t0 N a (z3o tab zoh Try.f76.results.toList)).trans (by kernel_rfl)
theorem f76ok (h:z02.Spec):z0r Try.prog 76 e76 :=
 z0k (sig:=zoh) (c:=(z3b 1)) (pl:=f76p0) (je:=(some zci)) (B:=f76B) Try.func76 (by kernel_rfl) (by kernel_rfl) (by kernel_rfl) z34 f76GOk (by kernel_rfl) (by kernel_rfl) (by kernel_rfl) (by kernel_rfl) fun X hb hp=>by
  obtain ⟨a,_⟩:=X
  obtain ⟨N,h⟩:=h a hb.1 hp
  exact ⟨N,(f76m N a).trans (h N (Nat.le_refl N))⟩
theorem e76ok:z0r Try.prog 76 e76:=f76ok z02.ok
end Go.Fw
namespace Go.Fw
variable {ρ:Type}
open Go.Proofs
def zp4:Sig:=⟨[⟨.pair (.int .i64) (.pair (.int .i64) (.sl 3 (.int .i64))),true,false⟩],[⟨.bool,false,false⟩]⟩
def e31:z2v:=⟨zp4,none,fun X=>((),((z1o.g X.1),()))⟩
def f31G:Gm:=z4p (z4p z24 75 e75) 76 e76
theorem f31GOk:GOk Try.prog f31G:=((GOk.nil).add e75ok (by kernel_rfl)).add e76ok (by kernel_rfl)
def f31lE:z09:=⟨[],[],[],[],[]⟩
def f31s0 (a:MT):St:=z2j zp4.ps (a,())
def f31s1 (a:Bool):St:=z1k [(2,xB a)] [] []
def f31l1:z09:=⟨[2],[],[],[],[]⟩
def f31B:Nat→Option z09:=z1n [(1000000,f31l1)]
abbrev f31i {ρ:Type} (N:Nat) (c:Code) (p:z0p) (σ:St) (K:KT ρ):Option ρ:=z1t f31G tab f31B N c p σ K
def f31c (n:Nat):Code:=z2x 99 (z25 Try.f31) n
theorem f31t0 N a (K:KT ρ):f31i N (f31c 1) .n (f31s0 a) (z00 (some f31lE) K) =
 z1o.Z0 N a (fun b=>K .ret (f31s1 b)):=by kernel_rfl
theorem f31m (N:Nat) (a:MT):f31i N (f31c 1) .n (f31s0 a) (z00 (some f31lE) (z3o tab zp4 Try.f31.results.toList)) = z1o.Z0 N a (fun b=>some ((),(b,()))) :=
 (f31t0 N a (z3o tab zp4 Try.f31.results.toList)).trans (by kernel_rfl)
theorem f31ok (h:z1o.Spec):z0r Try.prog 31 e31 :=
 z0k (sig:=zp4) (c:=(f31c 1)) (pl:=.n) (je:=(some f31lE)) (B:=f31B) Try.func31 (by kernel_rfl) (by kernel_rfl) (by kernel_rfl) z34 f31GOk (by kernel_rfl) (by kernel_rfl) (by kernel_rfl) (by kernel_rfl) fun X hb hp=>by
  obtain ⟨a,_⟩:=X
  obtain ⟨N,h⟩:=h a hb.1
  exact ⟨N,(f31m N a).trans (h N (Nat.le_refl N))⟩
theorem y6a:z0r Try.prog 31 e31:=f31ok z1o.ok
end Go.Fw
namespace Go.Fw
variable {ρ:Type}
open Go.Proofs
def zhk:Sig:=⟨[⟨.sl 3 (.int .i64),false,false⟩,⟨.int .i64,false,false⟩],[⟨.int .i64,false,false⟩]⟩
def e133:z2v:=⟨zhk,none,fun X=>((),((z0s.g X.1 X.2.1),()))⟩
def f133G:Gm:=z24
theorem f133GOk:GOk Try.prog f133G:=GOk.nil
def zdt:z09:=⟨[],[],[],[],[]⟩
def y2p (a:LI) (b:Int):St:=z2j zhk.ps (a,(b,()))
def ztv (a:LI) (b:Int):St:=z1k [(0,.c (.sn 3 tI a none)),(1,xi b)] [] []
def f133l1:z09:=⟨[0,1],[],[],[],[]⟩
def zke (a:LI) (b d e:Int):St:=z1k [(0,.c (.sn 3 tI a none)),(1,xi b),(7,xi d),(8,xi e)] [] []
def zpc:z09:=⟨[0,1,7,8],[],[],[],[]⟩
def zhl :St:=z1k [] [] []
def zbo:z09:=⟨[],[],[],[],[]⟩
def zbn (a:Int):St:=z1k [(4,xi a)] [] []
def f133l4:z09:=⟨[4],[],[],[],[]⟩
def f133B:Nat→Option z09:=z1n [(0,zbo),(1000000,f133l4)]
abbrev zdu {ρ:Type} (N:Nat) (c:Code) (p:z0p) (σ:St) (K:KT ρ):Option ρ:=z1t f133G tab f133B N c p σ K
def zcn (n:Nat):Code:=z2x 99 (z25 Try.f133) n
theorem f133t1 N a b (K:KT ρ):zdu N (zcn 2) .n (y2p a b) (z00 (some f133l1) K) =
 z0s.Z1 N a b (fun a b=>K .nrm (ztv a b)):=by kernel_rfl
theorem f133t4 N a b (K:KT ρ):zdu N (zcn 9) .n (ztv a b) (z00 (some zpc) K) =
 z0s.Z4 N a b (fun a b c d=>K .nrm (zke a b c d)):=by kernel_rfl
theorem f133t7 N a b c d (K:KT ρ):zdu N (zcn 37) .n (zke a b c d) (z00 (some zpc) K) =
 z0s.Z7 N a b c d (fun a b c d=>K .nrm (zke a b c d)) (K (.exit 0) zhl) (fun e=>K .ret (zbn e)):=by kernel_rfl
def f133p6:z0p:=.mk none (some zpc) .n .n
abbrev f133w6 {ρ:Type} (N M:Nat) (σ:St) (K:KT ρ):Option ρ:=z2r (fun σ K=>zdu N (zcn 37) .n σ K) zpc M σ K
theorem y2o {ρ:Type} (N:Nat) (K:KT ρ):∀ (M:Nat) (a:LI) (b c d:Int),f133w6 N M (zke a b c d) K =
 z0s.Z6L N (K (.exit 0) zhl) (fun e=>K .ret (zbn e)) M a b c d
 | 0,_,_,_,_=>rfl
 | M + 1,a,b,c,d=>z12 (fun k=>z0s.Z7 N a b c d k (K (.exit 0) zhl) (fun e=>K .ret (zbn e))) (f133t7 N (K:=z16 (fun σ=>f133w6 N M σ K) K) ..) (fx4 fun a b c d=>y2o N K M a b c d) (by kernel_rfl)
theorem f133t6 N a b c d (K:KT ρ):zdu N (zcn 21) f133p6 (zke a b c d) (z00 (some zbo) K) =
  z0s.Z6 N a b c d (K (.exit 0) zhl) (fun e=>K .ret (zbn e)) :=
 z1d (by kernel_rfl) (y2o N (z00 (some zbo) K) N a b c d) (by kernel_rfl)
def y2q:z0p:=.mk (some zbo) none f133p6 .n
theorem f133t5 N a b c d (K:KT ρ):zdu N (zcn 13) y2q (zke a b c d) (z00 (some zbo) K) =
  z0s.Z5 N a b c d (K .nrm zhl) (fun e=>K .ret (zbn e)) :=
 z0n (by kernel_rfl) (f133t6 N (K:=z1j 0 (z00 (some zbo) K)) ..) (by kernel_rfl)
def f133p3:z0p:=.mk (some zpc) none .n y2q
theorem f133t3 N a b (K:KT ρ):zdu N (zcn 5) f133p3 (ztv a b) (z00 (some zbo) K) =
  z0s.Z3 N a b (K .nrm zhl) (fun c=>K .ret (zbn c)) :=
 z05 (fun k=>z0s.Z4 N a b k) (by kernel_rfl) (f133t4 N (K:=z16 (fun σ=>zdu N (zcn 13) y2q σ (z00 (some zbo) K)) (z00 (some zbo) K)) ..) (fx4 fun a b d e=>f133t5 N a b d e K) (by kernel_rfl)
theorem f133t8 N  (K:KT ρ):zdu N (zcn 7) .n zhl (z00 (some zdt) K) =
 z0s.Z8 N (fun a=>K .ret (zbn a)):=by kernel_rfl
def y2r:z0p:=.mk (some zbo) none f133p3 .n
theorem f133t2 N a b (K:KT ρ):zdu N (zcn 3) y2r (ztv a b) (z00 (some zdt) K) =
  z0s.Z2 N a b (fun c=>K .ret (zbn c)) :=
 z05 (fun k=>z0s.Z3 N a b k (fun c=>K .ret (zbn c))) (by kernel_rfl) (f133t3 N (K:=z16 (fun σ=>zdu N (zcn 7) .n σ (z00 (some zdt) K)) (z00 (some zdt) K)) ..) (f133t8 N K) (by kernel_rfl)
def y2s:z0p:=.mk (some f133l1) none .n y2r
theorem f133t0 N a b (K:KT ρ):zdu N (zcn 1) y2s (y2p a b) (z00 (some zdt) K) =
  z0s.Z0 N a b (fun c=>K .ret (zbn c)) :=
 z05 (fun k=>z0s.Z1 N a b k) (by kernel_rfl) (f133t1 N (K:=z16 (fun σ=>zdu N (zcn 3) y2r σ (z00 (some zdt) K)) (z00 (some zdt) K)) ..) (fx2 fun a b=>f133t2 N a b K) (by kernel_rfl)
theorem f133m (N:Nat) (a:LI) (b:Int):zdu N (zcn 1) y2s (y2p a b) (z00 (some zdt) (z3o tab zhk Try.f133.results.toList)) = z0s.Z0 N a b (fun c=>some ((),(c,()))) :=
 (f133t0 N a b (z3o tab zhk Try.f133.results.toList)).trans (by kernel_rfl)
theorem f133ok (h:z0s.Spec):z0r Try.prog 133 e133 :=
 z0k (sig:=zhk) (c:=(zcn 1)) (pl:=y2s) (je:=(some zdt)) (B:=f133B) Try.func133 (by kernel_rfl) (by kernel_rfl) (by kernel_rfl) z34 f133GOk (by kernel_rfl) (by kernel_rfl) (by kernel_rfl) (by kernel_rfl) fun X hb hp=>by
  obtain ⟨a,b,_⟩:=X
  obtain ⟨N,h⟩:=h a b hb.1
  exact ⟨N,(f133m N a b).trans (h N (Nat.le_refl N))⟩
theorem e133ok:z0r Try.prog 133 e133:=f133ok z0s.ok
end Go.Fw
namespace Go.Fw
variable {ρ:Type}
open Go.Proofs
def zi1:Sig:=⟨[⟨.sl 3 (.int .i64),false,false⟩,⟨.int .i64,false,false⟩],[⟨.bool,false,false⟩]⟩
def e116:z2v:=⟨zi1,none,fun X=>((),((z1q.g X.1 X.2.1),()))⟩
def f116G:Gm:=z4p z24 133 e133
theorem f116GOk:GOk Try.prog f116G:=(GOk.nil).add e133ok (by kernel_rfl)
def y4t:z09:=⟨[],[],[],[],[]⟩
def f116s0 (a:LI) (b:Int):St:=z2j zi1.ps (a,(b,()))
def f116s1 (a:Bool):St:=z1k [(4,xB a)] [] []
def f116l1:z09:=⟨[4],[],[],[],[]⟩
def f116B:Nat→Option z09:=z1n [(1000000,f116l1)]
abbrev f116i {ρ:Type} (N:Nat) (c:Code) (p:z0p) (σ:St) (K:KT ρ):Option ρ:=z1t f116G tab f116B N c p σ K
def f116c (n:Nat):Code:=z2x 99 (z25 Try.f116) n
theorem f116t0 N a b (K:KT ρ):f116i N (f116c 1) .n (f116s0 a b) (z00 (some y4t) K) =
 z1q.Z0 N a b (fun c=>K .ret (f116s1 c)):=by kernel_rfl
theorem f116m (N:Nat) (a:LI) (b:Int):f116i N (f116c 1) .n (f116s0 a b) (z00 (some y4t) (z3o tab zi1 Try.f116.results.toList)) = z1q.Z0 N a b (fun c=>some ((),(c,()))) :=
 (f116t0 N a b (z3o tab zi1 Try.f116.results.toList)).trans (by kernel_rfl)
theorem f116ok (h:z1q.Spec):z0r Try.prog 116 e116 :=
 z0k (sig:=zi1) (c:=(f116c 1)) (pl:=.n) (je:=(some y4t)) (B:=f116B) Try.func116 (by kernel_rfl) (by kernel_rfl) (by kernel_rfl) z34 f116GOk (by kernel_rfl) (by kernel_rfl) (by kernel_rfl) (by kernel_rfl) fun X hb hp=>by
  obtain ⟨a,b,_⟩:=X
  obtain ⟨N,h⟩:=h a b hb.1
  exact ⟨N,(f116m N a b).trans (h N (Nat.le_refl N))⟩
theorem e116ok:z0r Try.prog 116 e116:=f116ok z1q.ok
end Go.Fw
namespace Go.Fw
variable {ρ:Type}
open Go.Proofs
def zo9:Sig:=⟨[⟨.sl 3 (.int .i64),false,false⟩,⟨.int .i64,false,false⟩],[⟨.bool,false,false⟩]⟩
def e90:z2v:=⟨zo9,none,fun X=>((),((z1i.g X.1 X.2.1),()))⟩
def f90G:Gm:=z4p (z4p z24 70 e70) 116 e116
theorem f90GOk:GOk Try.prog f90G:=((GOk.nil).add e70ok (by kernel_rfl)).add e116ok (by kernel_rfl)
def zfq:z09:=⟨[],[],[],[],[]⟩
def f90s0 (a:LI) (b:Int):St:=z2j zo9.ps (a,(b,()))
def zr2 (a:LI) (b:Int):St:=z1k [(0,.c (.sn 3 tI a none)),(1,xi b)] [] []
def f90l1:z09:=⟨[0,1],[],[],[],[]⟩
def zw1 (a:LI) (b:Int) (d:LI) (e f:Int):St:=z1k [(0,.c (.sn 3 tI a none)),(1,xi b),(11,.c (.sn 3 tI d none)),(12,xi e),(13,xi f)] [] []
def zza:z09:=⟨[0,1,11,12,13],[],[],[],[]⟩
def zr1 :St:=z1k [] [] []
def zj3:z09:=⟨[],[],[],[],[]⟩
def zem (a:Bool):St:=z1k [(4,xB a)] [] []
def f90l4:z09:=⟨[4],[],[],[],[]⟩
def f90B:Nat→Option z09:=z1n [(0,zj3),(1000000,f90l4)]
abbrev zoa {ρ:Type} (N:Nat) (c:Code) (p:z0p) (σ:St) (K:KT ρ):Option ρ:=z1t f90G tab f90B N c p σ K
def zmq (n:Nat):Code:=z2x 99 (z25 Try.f90) n
theorem f90t1 N a b (K:KT ρ):zoa N (zmq 2) .n (f90s0 a b) (z00 (some f90l1) K) =
 z1i.Z1 N a b (fun a b=>K .nrm (zr2 a b)):=by kernel_rfl
theorem f90t3 N a b (K:KT ρ):zoa N (zmq 5) .n (zr2 a b) (z00 (some f90l1) K) =
 z1i.Z3 N a b (fun a b=>K .nrm (zr2 a b)) (fun c=>K .ret (zem c)):=by kernel_rfl
theorem f90t6 N a b (K:KT ρ):zoa N (zmq 19) .n (zr2 a b) (z00 (some zza) K) =
 z1i.Z6 N a b (fun a b c d e=>K .nrm (zw1 a b c d e)):=by kernel_rfl
theorem f90t9 N a b c d e (K:KT ρ):zoa N (zmq 75) .n (zw1 a b c d e) (z00 (some zza) K) =
 z1i.Z9 N a b c d e (fun a b c d e=>K .nrm (zw1 a b c d e)) (K (.exit 0) zr1) (fun f=>K .ret (zem f)):=by kernel_rfl
def f90p8:z0p:=.mk none (some zza) .n .n
abbrev f90w8 {ρ:Type} (N M:Nat) (σ:St) (K:KT ρ):Option ρ:=z2r (fun σ K=>zoa N (zmq 75) .n σ K) zza M σ K
theorem f90t8L {ρ:Type} (N:Nat) (K:KT ρ):∀ (M:Nat) (a:LI) (b:Int) (c:LI) (d e:Int),f90w8 N M (zw1 a b c d e) K =
 z1i.Z8L N (K (.exit 0) zr1) (fun f=>K .ret (zem f)) M a b c d e
 | 0,_,_,_,_,_=>rfl
 | M + 1,a,b,c,d,e=>z12 (fun k=>z1i.Z9 N a b c d e k (K (.exit 0) zr1) (fun f=>K .ret (zem f))) (f90t9 N (K:=z16 (fun σ=>f90w8 N M σ K) K) ..) (fx5 fun a b c d e=>f90t8L N K M a b c d e) (by kernel_rfl)
theorem f90t8 N a b c d e (K:KT ρ):zoa N (zmq 43) f90p8 (zw1 a b c d e) (z00 (some zj3) K) =
  z1i.Z8 N a b c d e (K (.exit 0) zr1) (fun f=>K .ret (zem f)) :=
 z1d (by kernel_rfl) (f90t8L N (z00 (some zj3) K) N a b c d e) (by kernel_rfl)
def f90p7:z0p:=.mk (some zj3) none f90p8 .n
theorem f90t7 N a b c d e (K:KT ρ):zoa N (zmq 27) f90p7 (zw1 a b c d e) (z00 (some zj3) K) =
  z1i.Z7 N a b c d e (K .nrm zr1) (fun f=>K .ret (zem f)) :=
 z0n (by kernel_rfl) (f90t8 N (K:=z1j 0 (z00 (some zj3) K)) ..) (by kernel_rfl)
def f90p5:z0p:=.mk (some zza) none .n f90p7
theorem f90t5 N a b (K:KT ρ):zoa N (zmq 11) f90p5 (zr2 a b) (z00 (some zj3) K) =
  z1i.Z5 N a b (K .nrm zr1) (fun c=>K .ret (zem c)) :=
 z05 (fun k=>z1i.Z6 N a b k) (by kernel_rfl) (f90t6 N (K:=z16 (fun σ=>zoa N (zmq 27) f90p7 σ (z00 (some zj3) K)) (z00 (some zj3) K)) ..) (fx5 fun a b d e f=>f90t7 N a b d e f K) (by kernel_rfl)
theorem f90t10 N  (K:KT ρ):zoa N (zmq 15) .n zr1 (z00 (some zfq) K) =
 z1i.Z10 N (fun a=>K .ret (zem a)):=by kernel_rfl
def f90p4:z0p:=.mk (some zj3) none f90p5 .n
theorem f90t4 N a b (K:KT ρ):zoa N (zmq 7) f90p4 (zr2 a b) (z00 (some zfq) K) =
  z1i.Z4 N a b (fun c=>K .ret (zem c)) :=
 z05 (fun k=>z1i.Z5 N a b k (fun c=>K .ret (zem c))) (by kernel_rfl) (f90t5 N (K:=z16 (fun σ=>zoa N (zmq 15) .n σ (z00 (some zfq) K)) (z00 (some zfq) K)) ..) (f90t10 N K) (by kernel_rfl)
def f90p2:z0p:=.mk (some f90l1) none .n f90p4
theorem f90t2 N a b (K:KT ρ):zoa N (zmq 3) f90p2 (zr2 a b) (z00 (some zfq) K) =
  z1i.Z2 N a b (fun c=>K .ret (zem c)) :=
 z05 (fun k=>z1i.Z3 N a b k (fun c=>K .ret (zem c))) (by kernel_rfl) (f90t3 N (K:=z16 (fun σ=>zoa N (zmq 7) f90p4 σ (z00 (some zfq) K)) (z00 (some zfq) K)) ..) (fx2 fun a b=>f90t4 N a b K) (by kernel_rfl)
def f90p0:z0p:=.mk (some f90l1) none .n f90p2
theorem f90t0 N a b (K:KT ρ):zoa N (zmq 1) f90p0 (f90s0 a b) (z00 (some zfq) K) =
  z1i.Z0 N a b (fun c=>K .ret (zem c)) :=
 z05 (fun k=>z1i.Z1 N a b k) (by kernel_rfl) (f90t1 N (K:=z16 (fun σ=>zoa N (zmq 3) f90p2 σ (z00 (some zfq) K)) (z00 (some zfq) K)) ..) (fx2 fun a b=>f90t2 N a b K) (by kernel_rfl)
theorem f90m (N:Nat) (a:LI) (b:Int):zoa N (zmq 1) f90p0 (f90s0 a b) (z00 (some zfq) (z3o tab zo9 Try.f90.results.toList)) = z1i.Z0 N a b (fun c=>some ((),(c,()))) :=
 (f90t0 N a b (z3o tab zo9 Try.f90.results.toList)).trans (by kernel_rfl)
theorem f90ok (h:z1i.Spec):z0r Try.prog 90 e90 :=
 z0k (sig:=zo9) (c:=(zmq 1)) (pl:=f90p0) (je:=(some zfq)) (B:=f90B) Try.func90 (by kernel_rfl) (by kernel_rfl) (by kernel_rfl) z34 f90GOk (by kernel_rfl) (by kernel_rfl) (by kernel_rfl) (by kernel_rfl) fun X hb hp=>by
  obtain ⟨a,b,_⟩:=X
  obtain ⟨N,h⟩:=h a b hb.1
  exact ⟨N,(f90m N a b).trans (h N (Nat.le_refl N))⟩
theorem e90ok:z0r Try.prog 90 e90:=f90ok z1i.ok
end Go.Fw
namespace Go.Fw
variable {ρ:Type}
open Go.Proofs
def zox:Sig:=⟨[⟨.pair (.int .i64) (.pair (.int .i64) (.sl 3 (.int .i64))),true,false⟩,⟨.sl 3 (.int .i64),false,false⟩],[⟨.pair (.int .i64) (.pair (.int .i64) (.sl 3 (.int .i64))),true,false⟩,⟨.bool,false,false⟩]⟩
def e47:z2v:=⟨zox,none,fun X=>((),((z04.g X.1 X.2.1).1,((z04.g X.1 X.2.1).2,())))⟩
def f47G:Gm:=z4p (z4p (z4p z24 31 e31) 83 e83) 90 e90
theorem f47GOk:GOk Try.prog f47G:=(((GOk.nil).add y6a (by kernel_rfl)).add e83ok (by kernel_rfl)).add e90ok (by kernel_rfl)
def zcl:z09:=⟨[],[],[],[],[]⟩
def f47s0 (a:MT) (b:LI):St:=z2j zox.ps (a,(b,()))
def zwb (a:LI) (b d:Int) (e:LI) (f g:Int):St:=z1k [(1,.c (.sn 3 tI a none)),(2,xb 2),(4,xb 4)] [(2,(30,[yi b,yi d,.sn 3 tI e none])),(4,(30,[yi f,yi g,.nil]))] []
def f47l1:z09:=⟨[1,2,4],[2,4],[],[],[]⟩
def f47s2 (a b:LI) (d e:Int) (f:LI) (g h i j:Int):St:=z1k [(1,.c (.sn 3 tI b none)),(2,xb 2),(4,xb 4),(6,xb 6)] [(2,(30,[yi d,yi e,.sn 3 tI f none])),(4,(30,[yi g,yi h,.nil])),(6,(30,[yi i,yi j,.own 20000386]))] [(20000386,(⟨3,.int .i64,a,true,false⟩:Row))]
def f47l2:z09:=⟨[1,2,4,6],[2,4,6],[],[],[(⟨true,6,2⟩,20000386)]⟩
def z7d (a b:LI) (d e f:Int) (g:LI) (h i j l:Int):St:=z1k [(1,.c (.sn 3 tI b none)),(2,xb 2),(4,xb 4),(6,xb 6),(7,xi d)] [(2,(30,[yi e,yi f,.sn 3 tI g none])),(4,(30,[yi h,yi i,.nil])),(6,(30,[yi j,yi l,.own 20000386]))] [(20000386,(⟨3,.int .i64,a,true,false⟩:Row))]
def z5c:z09:=⟨[1,2,4,6,7],[2,4,6],[],[],[(⟨true,6,2⟩,20000386)]⟩
def zwa (a b:LI) (d e f g:Int) (h:LI) (i j l m:Int):St:=z1k [(1,.c (.sn 3 tI b none)),(2,xb 2),(4,xb 4),(6,xb 6),(7,xi d),(8,xi e)] [(2,(30,[yi f,yi g,.sn 3 tI h none])),(4,(30,[yi i,yi j,.nil])),(6,(30,[yi l,yi m,.own 20000386]))] [(20000386,(⟨3,.int .i64,a,true,false⟩:Row))]
def f47l4:z09:=⟨[1,2,4,6,7,8],[2,4,6],[],[],[(⟨true,6,2⟩,20000386)]⟩
def zw9 (a b:LI) (d e f g h:Int) (i:LI) (j l m o:Int):St:=z1k [(1,.c (.sn 3 tI b none)),(2,xb 2),(4,xb 4),(6,xb 6),(7,xi d),(8,xi e),(9,xi f)] [(2,(30,[yi g,yi h,.sn 3 tI i none])),(4,(30,[yi j,yi l,.nil])),(6,(30,[yi m,yi o,.own 20000386]))] [(20000386,(⟨3,.int .i64,a,true,false⟩:Row))]
def y1s:z09:=⟨[1,2,4,6,7,8,9],[2,4,6],[],[],[(⟨true,6,2⟩,20000386)]⟩
def zm5 (a:LI) (b c d e:Int):St:=z1k [(4,xb 4),(6,xb 6)] [(4,(30,[yi b,yi c,.nil])),(6,(30,[yi d,yi e,.own 20000386]))] [(20000386,(⟨3,.int .i64,a,true,false⟩:Row))]
def zja:z09:=⟨[4,6],[4,6],[],[],[(⟨true,6,2⟩,20000386)]⟩
def zr5 (a:LI) (b:Bool) (c d:Int):St:=z1k [(4,xb 4),(5,xB b)] [(4,(30,[yi c,yi d,.own 20000258]))] [(20000258,(⟨3,.int .i64,a,true,false⟩:Row))]
def f47l7:z09:=⟨[4,5],[4],[⟨⟨true,4,2⟩,30000000,3,.int .i64,true⟩],[],[(⟨true,4,2⟩,20000258)]⟩
def f47B:Nat→Option z09:=z1n [(2,z5c),(1,z5c),(0,zja),(1000000,f47l7)]
abbrev z9b {ρ:Type} (N:Nat) (c:Code) (p:z0p) (σ:St) (K:KT ρ):Option ρ:=z1t f47G tab f47B N c p σ K
def z8u (n:Nat):Code:=z2x 99 (z25 Try.f47) n
theorem f47t1 N b a (K:KT ρ):z9b N (z8u 2) .n (f47s0 b a) (z00 (some f47l1) K) =
 z04.Z1 N b a (fun a c d e f g=>K .nrm (zwb a c d e f g)):=by kernel_rfl
theorem f47t3 N c d e f a b (K:KT ρ):z9b N (z8u 5) .n (zwb c d e f a b) (z00 (some f47l1) K) =
 z04.Z3 N c d e f a b (fun c d e f a b=>K .nrm (zwb c d e f a b)) (fun g h a b=>K .ret (zr5 g h a b)):=by kernel_rfl
theorem f47t5 N a b c d e f (K:KT ρ):z9b N (z8u 11) .n (zwb a b c d e f) (z00 (some f47l2) K) =
 z04.Z5 N a b c d e f (fun g a b c d e f h i=>K .nrm (f47s2 g a b c d e f h i)):=by kernel_rfl
theorem f47t8 N a b c d e f g h i (K:KT ρ):z9b N (z8u 39) .n (f47s2 a b c d e f g h i) (z00 (some z5c) K) =
 z04.Z8 N a b c d e f g h i (fun a b j c d e f g h i=>K .nrm (z7d a b j c d e f g h i)):=by kernel_rfl
theorem f47t12 N a f g h i j b c d e (K:KT ρ):z9b N (z8u 279) .n (z7d a f g h i j b c d e) (z00 (some z5c) K) =
 z04.Z12 N a f g h i j b c d e (fun a f g h i j b c d e=>K .nrm (z7d a f g h i j b c d e)) (fun a b c d e=>K (.exit 0) (zm5 a b c d e)):=by kernel_rfl
theorem f47t16 N a b c d e f g h i j (K:KT ρ):z9b N (z8u 2199) .n (z7d a b c d e f g h i j) (z00 (some f47l4) K) =
 z04.Z16 N a b c d e f g h i j (fun a b c l d e f g h i j=>K .nrm (zwa a b c l d e f g h i j)):=by kernel_rfl
theorem f47t18 N a b c d e f g h i j l (K:KT ρ):z9b N (z8u 5271) .n (zwa a b c d e f g h i j l) (z00 (some f47l4) K) =
 z04.Z18 N a b c d e f g h i j l (fun a b c d e f g h i j l=>K .nrm (zwa a b c d e f g h i j l)):=by kernel_rfl
theorem f47t20 N a b c d e f g h i j l (K:KT ρ):z9b N (z8u 11415) .n (zwa a b c d e f g h i j l) (z00 (some y1s) K) =
 z04.Z20 N a b c d e f g h i j l (fun a b c d m e f g h i j l=>K .nrm (zw9 a b c d m e f g h i j l)):=by kernel_rfl
theorem f47t23 N a b c l m d e f g h i j (K:KT ρ):z9b N (z8u 40087) .n (zw9 a b c l m d e f g h i j) (z00 (some y1s) K) =
 z04.Z23 N a b c l m d e f g h i j (fun a b c l m d e f g h i j=>K .nrm (zw9 a b c l m d e f g h i j)) (fun a b c d e f g h i j=>K (.exit 2) (z7d a b c d e f g h i j)):=by kernel_rfl
def f47p22:z0p:=.mk none (some y1s) .n .n
abbrev f47w22 {ρ:Type} (N M:Nat) (σ:St) (K:KT ρ):Option ρ:=z2r (fun σ K=>z9b N (z8u 40087) .n σ K) y1s M σ K
theorem y1l {ρ:Type} (N:Nat) (K:KT ρ):∀ (M:Nat) (a b:LI) (c l m d e:Int) (f:LI) (g h i j:Int),f47w22 N M (zw9 a b c l m d e f g h i j) K =
 z04.Z22L N (fun a b c d e f g h i j=>K (.exit 2) (z7d a b c d e f g h i j)) M a b c l m d e f g h i j
 | 0,_,_,_,_,_,_,_,_,_,_,_,_=>rfl
 | M + 1,a,b,c,l,m,d,e,f,g,h,i,j=>z12 (fun k=>z04.Z23 N a b c l m d e f g h i j k (fun a b c d e f g h i j=>K (.exit 2) (z7d a b c d e f g h i j))) (f47t23 N (K:=z16 (fun σ=>f47w22 N M σ K) K) ..) (ztk fun a b c l m d e f g h i j=>y1l N K M a b c l m d e f g h i j) (by kernel_rfl)
theorem f47t22 N a b c l m d e f g h i j (K:KT ρ):z9b N (z8u 23703) f47p22 (zw9 a b c l m d e f g h i j) (z00 (some z5c) K) =
  z04.Z22 N a b c l m d e f g h i j (fun a b c d e f g h i j=>K (.exit 2) (z7d a b c d e f g h i j)) :=
 z1d (by kernel_rfl) (y1l N (z00 (some z5c) K) N a b c l m d e f g h i j) (by kernel_rfl)
def y1n:z0p:=.mk (some z5c) none f47p22 .n
theorem f47t21 N a b c l m d e f g h i j (K:KT ρ):z9b N (z8u 15511) y1n (zw9 a b c l m d e f g h i j) (z00 (some z5c) K) =
  z04.Z21 N a b c l m d e f g h i j (fun a b c d e f g h i j=>K .nrm (z7d a b c d e f g h i j)) :=
 z0n (by kernel_rfl) (f47t22 N (K:=z1j 2 (z00 (some z5c) K)) ..) (by kernel_rfl)
def y1o:z0p:=.mk (some y1s) none .n y1n
theorem f47t19 N a b c l d e f g h i j (K:KT ρ):z9b N (z8u 7319) y1o (zwa a b c l d e f g h i j) (z00 (some z5c) K) =
  z04.Z19 N a b c l d e f g h i j (fun a b c d e f g h i j=>K .nrm (z7d a b c d e f g h i j)) :=
 z05 (fun k=>z04.Z20 N a b c l d e f g h i j k) (by kernel_rfl) (f47t20 N (K:=z16 (fun σ=>z9b N (z8u 15511) y1n σ (z00 (some z5c) K)) (z00 (some z5c) K)) ..) (ztk fun a b c l m d e f g h i j=>f47t21 N a b c l m d e f g h i j K) (by kernel_rfl)
def y1p:z0p:=.mk (some f47l4) none .n y1o
theorem f47t17 N a b c l d e f g h i j (K:KT ρ):z9b N (z8u 3223) y1p (zwa a b c l d e f g h i j) (z00 (some z5c) K) =
  z04.Z17 N a b c l d e f g h i j (fun a b c d e f g h i j=>K .nrm (z7d a b c d e f g h i j)) :=
 z05 (fun k=>z04.Z18 N a b c l d e f g h i j k) (by kernel_rfl) (f47t18 N (K:=z16 (fun σ=>z9b N (z8u 7319) y1o σ (z00 (some z5c) K)) (z00 (some z5c) K)) ..) (zk5 fun a b c l d e f g h i j=>f47t19 N a b c l d e f g h i j K) (by kernel_rfl)
def f47p15:z0p:=.mk (some f47l4) none .n y1p
theorem f47t15 N a b c d e f g h i j (K:KT ρ):z9b N (z8u 1175) f47p15 (z7d a b c d e f g h i j) (z00 (some z5c) K) =
  z04.Z15 N a b c d e f g h i j (fun a b c d e f g h i j=>K .nrm (z7d a b c d e f g h i j)) :=
 z05 (fun k=>z04.Z16 N a b c d e f g h i j k) (by kernel_rfl) (f47t16 N (K:=z16 (fun σ=>z9b N (z8u 3223) y1p σ (z00 (some z5c) K)) (z00 (some z5c) K)) ..) (zk5 fun a b c l d e f g h i j=>f47t17 N a b c l d e f g h i j K) (by kernel_rfl)
def f47p14:z0p:=.mk (some z5c) none f47p15 .n
theorem f47t14 N a b c d e f g h i j (K:KT ρ):z9b N (z8u 663) f47p14 (z7d a b c d e f g h i j) (z00 (some z5c) K) =
  z04.Z14 N a b c d e f g h i j (fun a b c d e f g h i j=>K .nrm (z7d a b c d e f g h i j)) :=
 z0n (by kernel_rfl) (f47t15 N (K:=z1j 1 (z00 (some z5c) K)) ..) (by kernel_rfl)
theorem f47t24 N a b c d e f g h i j (K:KT ρ):z9b N (z8u 919) .n (z7d a b c d e f g h i j) (z00 (some z5c) K) =
 z04.Z24 N a b c d e f g h i j (fun a b c d e f g h i j=>K .nrm (z7d a b c d e f g h i j)):=by kernel_rfl
def y1q:z0p:=.mk (some z5c) none f47p14 .n
theorem f47t13 N a b c d e f g h i j (K:KT ρ):z9b N (z8u 407) y1q (z7d a b c d e f g h i j) (z00 (some z5c) K) =
  z04.Z13 N a b c d e f g h i j (fun a b c d e f g h i j=>K .nrm (z7d a b c d e f g h i j)) :=
 z05 (fun k=>z04.Z14 N a b c d e f g h i j k) (by kernel_rfl) (f47t14 N (K:=z16 (fun σ=>z9b N (z8u 919) .n σ (z00 (some z5c) K)) (z00 (some z5c) K)) ..) (zb5 fun a b c d e f g h i j=>f47t24 N a b c d e f g h i j K) (by kernel_rfl)
def y1r:z0p:=.mk (some z5c) none .n y1q
theorem f47t11 N a f g h i j b c d e (K:KT ρ):z9b N (z8u 151) y1r (z7d a f g h i j b c d e) (z00 (some z5c) K) =
  z04.Z11 N a f g h i j b c d e (fun a f g h i j b c d e=>K .nrm (z7d a f g h i j b c d e)) (fun a b c d e=>K (.exit 0) (zm5 a b c d e)) :=
 z05 (fun k=>z04.Z12 N a f g h i j b c d e k (fun a b c d e=>K (.exit 0) (zm5 a b c d e))) (by kernel_rfl) (f47t12 N (K:=z16 (fun σ=>z9b N (z8u 407) y1q σ (z00 (some z5c) K)) (z00 (some z5c) K)) ..) (zb5 fun a f g h i j b c d e=>f47t13 N a f g h i j b c d e K) (by kernel_rfl)
def f47p10:z0p:=.mk none (some z5c) y1r .n
abbrev f47w10 {ρ:Type} (N M:Nat) (σ:St) (K:KT ρ):Option ρ:=z2r (fun σ K=>z9b N (z8u 151) y1r σ K) z5c M σ K
theorem y1m {ρ:Type} (N:Nat) (K:KT ρ):∀ (M:Nat) (a f:LI) (g h i:Int) (j:LI) (b c d e:Int),f47w10 N M (z7d a f g h i j b c d e) K =
 z04.Z10L N (fun a b c d e=>K (.exit 0) (zm5 a b c d e)) M a f g h i j b c d e
 | 0,_,_,_,_,_,_,_,_,_,_=>rfl
 | M + 1,a,f,g,h,i,j,b,c,d,e=>z12 (fun k=>z04.Z11 N a f g h i j b c d e k (fun a b c d e=>K (.exit 0) (zm5 a b c d e))) (f47t11 N (K:=z16 (fun σ=>f47w10 N M σ K) K) ..) (zb5 fun a f g h i j b c d e=>y1m N K M a f g h i j b c d e) (by kernel_rfl)
theorem f47t10 N a f g h i j b c d e (K:KT ρ):z9b N (z8u 87) f47p10 (z7d a f g h i j b c d e) (z00 (some zja) K) =
  z04.Z10 N a f g h i j b c d e (fun a b c d e=>K (.exit 0) (zm5 a b c d e)) :=
 z1d (by kernel_rfl) (y1m N (z00 (some zja) K) N a f g h i j b c d e) (by kernel_rfl)
def f47p9:z0p:=.mk (some zja) none f47p10 .n
theorem f47t9 N a f g h i j b c d e (K:KT ρ):z9b N (z8u 55) f47p9 (z7d a f g h i j b c d e) (z00 (some zja) K) =
  z04.Z9 N a f g h i j b c d e (fun a b c d e=>K .nrm (zm5 a b c d e)) :=
 z0n (by kernel_rfl) (f47t10 N (K:=z1j 0 (z00 (some zja) K)) ..) (by kernel_rfl)
def f47p7:z0p:=.mk (some z5c) none .n f47p9
theorem f47t7 N a f g h i b c d e (K:KT ρ):z9b N (z8u 23) f47p7 (f47s2 a f g h i b c d e) (z00 (some zja) K) =
  z04.Z7 N a f g h i b c d e (fun a b c d e=>K .nrm (zm5 a b c d e)) :=
 z05 (fun k=>z04.Z8 N a f g h i b c d e k) (by kernel_rfl) (f47t8 N (K:=z16 (fun σ=>z9b N (z8u 55) f47p9 σ (z00 (some zja) K)) (z00 (some zja) K)) ..) (zb5 fun a f j g h i b c d e=>f47t9 N a f j g h i b c d e K) (by kernel_rfl)
theorem f47t25 N c a b d e (K:KT ρ):z9b N (z8u 31) .n (zm5 c a b d e) (z00 (some zcl) K) =
 z04.Z25 N c a b d e (fun f g a b=>K .ret (zr5 f g a b)):=by kernel_rfl
def f47p6:z0p:=.mk (some zja) none f47p7 .n
theorem f47t6 N c f g h i a b d e (K:KT ρ):z9b N (z8u 15) f47p6 (f47s2 c f g h i a b d e) (z00 (some zcl) K) =
  z04.Z6 N c f g h i a b d e (fun j l a b=>K .ret (zr5 j l a b)) :=
 z05 (fun k=>z04.Z7 N c f g h i a b d e k) (by kernel_rfl) (f47t7 N (K:=z16 (fun σ=>z9b N (z8u 31) .n σ (z00 (some zcl) K)) (z00 (some zcl) K)) ..) (fx5 fun c a b d e=>f47t25 N c a b d e K) (by kernel_rfl)
def f47p4:z0p:=.mk (some f47l2) none .n f47p6
theorem f47t4 N c d e f a b (K:KT ρ):z9b N (z8u 7) f47p4 (zwb c d e f a b) (z00 (some zcl) K) =
  z04.Z4 N c d e f a b (fun g h a b=>K .ret (zr5 g h a b)) :=
 z05 (fun k=>z04.Z5 N c d e f a b k) (by kernel_rfl) (f47t5 N (K:=z16 (fun σ=>z9b N (z8u 15) f47p6 σ (z00 (some zcl) K)) (z00 (some zcl) K)) ..) (fx9 fun i c d e f a b j l=>f47t6 N i c d e f a b j l K) (by kernel_rfl)
def f47p2:z0p:=.mk (some f47l1) none .n f47p4
theorem f47t2 N c d e f a b (K:KT ρ):z9b N (z8u 3) f47p2 (zwb c d e f a b) (z00 (some zcl) K) =
  z04.Z2 N c d e f a b (fun g h a b=>K .ret (zr5 g h a b)) :=
 z05 (fun k=>z04.Z3 N c d e f a b k (fun g h a b=>K .ret (zr5 g h a b))) (by kernel_rfl) (f47t3 N (K:=z16 (fun σ=>z9b N (z8u 7) f47p4 σ (z00 (some zcl) K)) (z00 (some zcl) K)) ..) (fx6 fun c d e f a b=>f47t4 N c d e f a b K) (by kernel_rfl)
def f47p0:z0p:=.mk (some f47l1) none .n f47p2
theorem f47t0 N b a (K:KT ρ):z9b N (z8u 1) f47p0 (f47s0 b a) (z00 (some zcl) K) =
  z04.Z0 N b a (fun e f c d=>K .ret (zr5 e f c d)) :=
 z05 (fun k=>z04.Z1 N b a k) (by kernel_rfl) (f47t1 N (K:=z16 (fun σ=>z9b N (z8u 3) f47p2 σ (z00 (some zcl) K)) (z00 (some zcl) K)) ..) (fx6 fun a g h i c d=>f47t2 N a g h i c d K) (by kernel_rfl)
theorem f47m (N:Nat) (a:MT) (b:LI):z9b N (z8u 1) f47p0 (f47s0 a b) (z00 (some zcl) (z3o tab zox Try.f47.results.toList)) = z04.Z0 N a b (fun c d e f=>some ((),((e,(f,c)),(d,())))) :=
 (f47t0 N a b (z3o tab zox Try.f47.results.toList)).trans (by kernel_rfl)
theorem f47ok (h:z04.Spec):z0r Try.prog 47 e47 :=
 z0k (sig:=zox) (c:=(z8u 1)) (pl:=f47p0) (je:=(some zcl)) (B:=f47B) Try.func47 (by kernel_rfl) (by kernel_rfl) (by kernel_rfl) z34 f47GOk (by kernel_rfl) (by kernel_rfl) (by kernel_rfl) (by kernel_rfl) fun X hb hp=>by
  obtain ⟨a,b,_⟩:=X
  obtain ⟨N,h⟩:=h a b hb.1 hb.2.1
  exact ⟨N,(f47m N a b).trans (h N (Nat.le_refl N))⟩
theorem e47ok:z0r Try.prog 47 e47:=f47ok z04.ok
end Go.Fw
namespace Go.Fw
variable {ρ:Type}
open Go.Proofs
def zo8:Sig:=⟨[⟨.sl 3 (.int .i64),false,false⟩],[⟨.sl 3 (.int .i64),false,false⟩]⟩
def e91:z2v:=⟨zo8,(some fun X=>z0t.P X.1),fun X=>((),((z0t.g X.1),()))⟩
def f91G:Gm:=z24
theorem f91GOk:GOk Try.prog f91G:=GOk.nil
def f91lE:z09:=⟨[],[],[],[],[]⟩
def f91s0 (a:LI):St:=z2j zo8.ps (a,())
def f91s1 (a:LI):St:=z1k [(2,xo 1000128)] [] [(1000128,(⟨3,.int .i64,a,true,false⟩:Row))]
def f91l1:z09:=⟨[2],[],[⟨⟨false,2,0⟩,30000000,3,.int .i64,true⟩],[],[(⟨false,2,0⟩,1000128)]⟩
def f91B:Nat→Option z09:=z1n [(1000000,f91l1)]
abbrev f91i {ρ:Type} (N:Nat) (c:Code) (p:z0p) (σ:St) (K:KT ρ):Option ρ:=z1t f91G tab f91B N c p σ K
def f91c (n:Nat):Code:=z2x 99 (z25 Try.f91) n
theorem f91t0 N a (K:KT ρ):f91i N (f91c 1) .n (f91s0 a) (z00 (some f91lE) K) =
 z0t.Z0 N a (fun b=>K .ret (f91s1 b)):=by kernel_rfl
theorem f91m (N:Nat) (a:LI):f91i N (f91c 1) .n (f91s0 a) (z00 (some f91lE) (z3o tab zo8 Try.f91.results.toList)) = z0t.Z0 N a (fun b=>some ((),(b,()))) :=
 (f91t0 N a (z3o tab zo8 Try.f91.results.toList)).trans (by kernel_rfl)
theorem f91ok (h:z0t.Spec):z0r Try.prog 91 e91 :=
 z0k (sig:=zo8) (c:=(f91c 1)) (pl:=.n) (je:=(some f91lE)) (B:=f91B) Try.func91 (by kernel_rfl) (by kernel_rfl) (by kernel_rfl) z34 f91GOk (by kernel_rfl) (by kernel_rfl) (by kernel_rfl) (by kernel_rfl) fun X hb hp=>by
  obtain ⟨a,_⟩:=X
  obtain ⟨N,h⟩:=h a hb.1 hp
  exact ⟨N,(f91m N a).trans (h N (Nat.le_refl N))⟩
theorem e91ok:z0r Try.prog 91 e91:=f91ok z0t.ok
end Go.Fw
namespace Go.Fw
variable {ρ:Type}
open Go.Proofs
def zoq:Sig:=⟨[⟨.pair (.int .i64) (.pair (.int .i64) (.sl 3 (.int .i64))),true,false⟩,⟨.int .i64,false,false⟩],[⟨.pair (.int .i64) (.pair (.int .i64) (.sl 3 (.int .i64))),true,false⟩]⟩
def e71:z2v:=⟨zoq,(some fun X=>z0h.P X.1 X.2.1),fun X=>((),((z0h.g X.1 X.2.1),()))⟩
def f71G:Gm:=z4p (z4p z24 83 e83) 91 e91
theorem f71GOk:GOk Try.prog f71G:=((GOk.nil).add e83ok (by kernel_rfl)).add e91ok (by kernel_rfl)
def zfv:z09:=⟨[],[],[],[],[]⟩
def f71s0 (a:MT) (b:Int):St:=z2j zoq.ps (a,(b,()))
def f71s1 (a b c:Int) (d:LI) (e f:Int):St:=z1k [(1,xi a),(2,xb 2),(4,xb 4)] [(2,(30,[yi b,yi c,.sn 3 tI d none])),(4,(30,[yi e,yi f,.nil]))] []
def f71l1:z09:=⟨[1,2,4],[2,4],[],[],[]⟩
def f71s2 (a:LI) (b c d:Int) (e:LI) (f g h i:Int):St:=z1k [(1,xi b),(2,xb 2),(4,xb 4),(5,xb 5)] [(2,(30,[yi c,yi d,.sn 3 tI e none])),(4,(30,[yi f,yi g,.nil])),(5,(30,[yi h,yi i,.own 20000322]))] [(20000322,(⟨3,.int .i64,a,true,false⟩:Row))]
def f71l2:z09:=⟨[1,2,4,5],[2,4,5],[],[],[(⟨true,5,2⟩,20000322)]⟩
def z7c (a:LI) (b c d e:Int) (f:LI) (g h i j:Int):St:=z1k [(1,xi b),(2,xb 2),(4,xb 4),(5,xb 5),(6,xi c)] [(2,(30,[yi d,yi e,.sn 3 tI f none])),(4,(30,[yi g,yi h,.nil])),(5,(30,[yi i,yi j,.own 20000322]))] [(20000322,(⟨3,.int .i64,a,true,false⟩:Row))]
def z6v:z09:=⟨[1,2,4,5,6],[2,4,5],[],[],[(⟨true,5,2⟩,20000322)]⟩
def z8e (a:LI) (b c d e f:Int) (g:LI) (h i j l:Int):St:=z1k [(1,xi b),(2,xb 2),(4,xb 4),(5,xb 5),(6,xi c),(7,xi d)] [(2,(30,[yi e,yi f,.sn 3 tI g none])),(4,(30,[yi h,yi i,.nil])),(5,(30,[yi j,yi l,.own 20000322]))] [(20000322,(⟨3,.int .i64,a,true,false⟩:Row))]
def z5m:z09:=⟨[1,2,4,5,6,7],[2,4,5],[],[],[(⟨true,5,2⟩,20000322)]⟩
def f71s5 (a:LI) (b d e f g h:Int) (i:LI) (j l m o:Int):St:=z1k [(1,xi b),(2,xb 2),(4,xb 4),(5,xb 5),(6,xi d),(7,xi e),(8,.c (.elt 20000322 f 0))] [(2,(30,[yi g,yi h,.sn 3 tI i none])),(4,(30,[yi j,yi l,.nil])),(5,(30,[yi m,yi o,.own 20000322]))] [(20000322,(⟨3,.int .i64,a,true,false⟩:Row))]
def f71l5:z09:=⟨[1,2,4,5,6,7,8],[2,4,5],[],[],[(⟨true,5,2⟩,20000322)]⟩
def f71s6 (a:LI) (b d e f g h i j:Int) (l:LI) (m o p q:Int):St:=z1k [(1,xi b),(2,xb 2),(4,xb 4),(5,xb 5),(6,xi d),(7,xi e),(8,.c (.elt 20000322 f 0)),(9,xi g),(10,xi h)] [(2,(30,[yi i,yi j,.sn 3 tI l none])),(4,(30,[yi m,yi o,.nil])),(5,(30,[yi p,yi q,.own 20000322]))] [(20000322,(⟨3,.int .i64,a,true,false⟩:Row))]
def f71l6:z09:=⟨[1,2,4,5,6,7,8,9,10],[2,4,5],[],[],[(⟨true,5,2⟩,20000322)]⟩
def f71s7 (a:LI) (b d e f g h:Int) (i:Bool) (j l:Int) (m:LI) (o p q r:Int):St:=z1k [(1,xi b),(2,xb 2),(4,xb 4),(5,xb 5),(6,xi d),(7,xi e),(8,.c (.elt 20000322 f 0)),(9,xi g),(10,xi h),(48,xB i)] [(2,(30,[yi j,yi l,.sn 3 tI m none])),(4,(30,[yi o,yi p,.nil])),(5,(30,[yi q,yi r,.own 20000322]))] [(20000322,(⟨3,.int .i64,a,true,false⟩:Row))]
def f71l7:z09:=⟨[1,2,4,5,6,7,8,9,10,48],[2,4,5],[],[],[(⟨true,5,2⟩,20000322)]⟩
def zm3 (a:LI) (b c d e:Int):St:=z1k [(4,xb 4),(5,xb 5)] [(4,(30,[yi b,yi c,.nil])),(5,(30,[yi d,yi e,.own 20000322]))] [(20000322,(⟨3,.int .i64,a,true,false⟩:Row))]
def zj7:z09:=⟨[4,5],[4,5],[],[],[(⟨true,5,2⟩,20000322)]⟩
def f71s9 (a:LI) (b c:Int):St:=z1k [(4,xb 4)] [(4,(30,[yi b,yi c,.own 20000258]))] [(20000258,(⟨3,.int .i64,a,true,false⟩:Row))]
def f71l9:z09:=⟨[4],[4],[],[],[(⟨true,4,2⟩,20000258)]⟩
def f71B:Nat→Option z09:=z1n [(4,z5m),(3,z5m),(2,z6v),(1,z6v),(0,zj7),(1000000,f71l9)]
abbrev z7s {ρ:Type} (N:Nat) (c:Code) (p:z0p) (σ:St) (K:KT ρ):Option ρ:=z1t f71G tab f71B N c p σ K
def z7k (n:Nat):Code:=z2x 99 (z25 Try.f71) n
theorem f71t1 N b a (K:KT ρ):z7s N (z7k 2) .n (f71s0 b a) (z00 (some f71l1) K) =
 z0h.Z1 N b a (fun a c d e f g=>K .nrm (f71s1 a c d e f g)):=by kernel_rfl
theorem f71t3 N a b c d e f (K:KT ρ):z7s N (z7k 5) .n (f71s1 a b c d e f) (z00 (some f71l2) K) =
 z0h.Z3 N a b c d e f (fun g a b c d e f h i=>K .nrm (f71s2 g a b c d e f h i)):=by kernel_rfl
theorem f71t6 N a b c d e f g h i (K:KT ρ):z7s N (z7k 19) .n (f71s2 a b c d e f g h i) (z00 (some z6v) K) =
 z0h.Z6 N a b c d e f g h i (fun a b j c d e f g h i=>K .nrm (z7c a b j c d e f g h i)):=by kernel_rfl
theorem f71t10 N a f g h i j b c d e (K:KT ρ):z7s N (z7k 139) .n (z7c a f g h i j b c d e) (z00 (some z6v) K) =
 z0h.Z10 N a f g h i j b c d e (fun a f g h i j b c d e=>K .nrm (z7c a f g h i j b c d e)) (fun a b c d e=>K (.exit 0) (zm3 a b c d e)):=by kernel_rfl
theorem f71t14 N a b c d e f g h i j (K:KT ρ):z7s N (z7k 1099) .n (z7c a b c d e f g h i j) (z00 (some z5m) K) =
 z0h.Z14 N a b c d e f g h i j (fun a b c l d e f g h i j=>K .nrm (z8e a b c l d e f g h i j)):=by kernel_rfl
theorem f71t18 N a b c l d e f g h i j (K:KT ρ):z7s N (z7k 8779) .n (z8e a b c l d e f g h i j) (z00 (some z5m) K) =
 z0h.Z18 N a b c l d e f g h i j (fun a b c l d e f g h i j=>K .nrm (z8e a b c l d e f g h i j)) (fun a b c d e f g h i j=>K (.exit 2) (z7c a b c d e f g h i j)):=by kernel_rfl
theorem f71t22 N a b c d e f g h i j l (K:KT ρ):z7s N (z7k 70219) .n (z8e a b c d e f g h i j l) (z00 (some f71l5) K) =
 z0h.Z22 N a b c d e f g h i j l (fun a b c d m e f g h i j l=>K .nrm (f71s5 a b c d m e f g h i j l)):=by kernel_rfl
theorem f71t24 N a b c d e f g h i j l m (K:KT ρ):z7s N (z7k 168523) .n (f71s5 a b c d e f g h i j l m) (z00 (some f71l6) K) =
 z0h.Z24 N a b c d e f g h i j l m (fun a b c d e o p f g h i j l m=>K .nrm (f71s6 a b c d e o p f g h i j l m)):=by kernel_rfl
theorem f71t27 N a b c d e f g h i j l m o p (K:KT ρ):z7s N (z7k 627275) .n (f71s6 a b c d e f g h i j l m o p) (z00 (some f71l7) K) =
 z0h.Z27 N a b c d e f g h i j l m o p (fun a b c d e f g q h i j l m o p=>K .nrm (f71s7 a b c d e f g q h i j l m o p)):=by kernel_rfl
theorem f71t28 N a b c d m o p q e f g h i j l (K:KT ρ):z7s N (z7k 889419) .n (f71s7 a b c d m o p q e f g h i j l) (z00 (some z5m) K) =
 z0h.Z28 N a b c d m o p q e f g h i j l (fun a b c d e f g h i j l=>K .nrm (z8e a b c d e f g h i j l)):=by kernel_rfl
def f71p26:z0p:=.mk (some f71l7) none .n .n
theorem f71t26 N a b c d m o p e f g h i j l (K:KT ρ):z7s N (z7k 365131) f71p26 (f71s6 a b c d m o p e f g h i j l) (z00 (some z5m) K) =
  z0h.Z26 N a b c d m o p e f g h i j l (fun a b c d e f g h i j l=>K .nrm (z8e a b c d e f g h i j l)) :=
 z05 (fun k=>z0h.Z27 N a b c d m o p e f g h i j l k) (by kernel_rfl) (f71t27 N (K:=z16 (fun σ=>z7s N (z7k 889419) .n σ (z00 (some z5m) K)) (z00 (some z5m) K)) ..) (fx15 fun a b c d m o p q e f g h i j l=>f71t28 N a b c d m o p q e f g h i j l K) (by kernel_rfl)
def y12:z0p:=.mk (some z5m) none f71p26 .n
theorem f71t25 N a b c d m o p e f g h i j l (K:KT ρ):z7s N (z7k 234059) y12 (f71s6 a b c d m o p e f g h i j l) (z00 (some z5m) K) =
  z0h.Z25 N a b c d m o p e f g h i j l (fun a b c d e f g h i j l=>K .nrm (z8e a b c d e f g h i j l)) :=
 z0n (by kernel_rfl) (f71t26 N (K:=z1j 4 (z00 (some z5m) K)) ..) (by kernel_rfl)
def y13:z0p:=.mk (some f71l6) none .n y12
theorem f71t23 N a b c d m e f g h i j l (K:KT ρ):z7s N (z7k 102987) y13 (f71s5 a b c d m e f g h i j l) (z00 (some z5m) K) =
  z0h.Z23 N a b c d m e f g h i j l (fun a b c d e f g h i j l=>K .nrm (z8e a b c d e f g h i j l)) :=
 z05 (fun k=>z0h.Z24 N a b c d m e f g h i j l k) (by kernel_rfl) (f71t24 N (K:=z16 (fun σ=>z7s N (z7k 234059) y12 σ (z00 (some z5m) K)) (z00 (some z5m) K)) ..) (fx14 fun a b c d m o p e f g h i j l=>f71t25 N a b c d m o p e f g h i j l K) (by kernel_rfl)
def f71p21:z0p:=.mk (some f71l5) none .n y13
theorem f71t21 N a b c d e f g h i j l (K:KT ρ):z7s N (z7k 37451) f71p21 (z8e a b c d e f g h i j l) (z00 (some z5m) K) =
  z0h.Z21 N a b c d e f g h i j l (fun a b c d e f g h i j l=>K .nrm (z8e a b c d e f g h i j l)) :=
 z05 (fun k=>z0h.Z22 N a b c d e f g h i j l k) (by kernel_rfl) (f71t22 N (K:=z16 (fun σ=>z7s N (z7k 102987) y13 σ (z00 (some z5m) K)) (z00 (some z5m) K)) ..) (ztk fun a b c d m e f g h i j l=>f71t23 N a b c d m e f g h i j l K) (by kernel_rfl)
def f71p20:z0p:=.mk (some z5m) none f71p21 .n
theorem f71t20 N a b c d e f g h i j l (K:KT ρ):z7s N (z7k 21067) f71p20 (z8e a b c d e f g h i j l) (z00 (some z5m) K) =
  z0h.Z20 N a b c d e f g h i j l (fun a b c d e f g h i j l=>K .nrm (z8e a b c d e f g h i j l)) :=
 z0n (by kernel_rfl) (f71t21 N (K:=z1j 3 (z00 (some z5m) K)) ..) (by kernel_rfl)
theorem f71t29 N a b c d e f g h i j l (K:KT ρ):z7s N (z7k 29259) .n (z8e a b c d e f g h i j l) (z00 (some z5m) K) =
 z0h.Z29 N a b c d e f g h i j l (fun a b c d e f g h i j l=>K .nrm (z8e a b c d e f g h i j l)):=by kernel_rfl
def y14:z0p:=.mk (some z5m) none f71p20 .n
theorem f71t19 N a b c d e f g h i j l (K:KT ρ):z7s N (z7k 12875) y14 (z8e a b c d e f g h i j l) (z00 (some z5m) K) =
  z0h.Z19 N a b c d e f g h i j l (fun a b c d e f g h i j l=>K .nrm (z8e a b c d e f g h i j l)) :=
 z05 (fun k=>z0h.Z20 N a b c d e f g h i j l k) (by kernel_rfl) (f71t20 N (K:=z16 (fun σ=>z7s N (z7k 29259) .n σ (z00 (some z5m) K)) (z00 (some z5m) K)) ..) (zk5 fun a b c d e f g h i j l=>f71t29 N a b c d e f g h i j l K) (by kernel_rfl)
def y15:z0p:=.mk (some z5m) none .n y14
theorem f71t17 N a b c l d e f g h i j (K:KT ρ):z7s N (z7k 4683) y15 (z8e a b c l d e f g h i j) (z00 (some z5m) K) =
  z0h.Z17 N a b c l d e f g h i j (fun a b c l d e f g h i j=>K .nrm (z8e a b c l d e f g h i j)) (fun a b c d e f g h i j=>K (.exit 2) (z7c a b c d e f g h i j)) :=
 z05 (fun k=>z0h.Z18 N a b c l d e f g h i j k (fun a b c d e f g h i j=>K (.exit 2) (z7c a b c d e f g h i j))) (by kernel_rfl) (f71t18 N (K:=z16 (fun σ=>z7s N (z7k 12875) y14 σ (z00 (some z5m) K)) (z00 (some z5m) K)) ..) (zk5 fun a b c l d e f g h i j=>f71t19 N a b c l d e f g h i j K) (by kernel_rfl)
def f71p16:z0p:=.mk none (some z5m) y15 .n
abbrev f71w16 {ρ:Type} (N M:Nat) (σ:St) (K:KT ρ):Option ρ:=z2r (fun σ K=>z7s N (z7k 4683) y15 σ K) z5m M σ K
theorem y11 {ρ:Type} (N:Nat) (K:KT ρ):∀ (M:Nat) (a:LI) (b c l d e:Int) (f:LI) (g h i j:Int),f71w16 N M (z8e a b c l d e f g h i j) K =
 z0h.Z16L N (fun a b c d e f g h i j=>K (.exit 2) (z7c a b c d e f g h i j)) M a b c l d e f g h i j
 | 0,_,_,_,_,_,_,_,_,_,_,_=>rfl
 | M + 1,a,b,c,l,d,e,f,g,h,i,j=>z12 (fun k=>z0h.Z17 N a b c l d e f g h i j k (fun a b c d e f g h i j=>K (.exit 2) (z7c a b c d e f g h i j))) (f71t17 N (K:=z16 (fun σ=>f71w16 N M σ K) K) ..) (zk5 fun a b c l d e f g h i j=>y11 N K M a b c l d e f g h i j) (by kernel_rfl)
theorem f71t16 N a b c l d e f g h i j (K:KT ρ):z7s N (z7k 2635) f71p16 (z8e a b c l d e f g h i j) (z00 (some z6v) K) =
  z0h.Z16 N a b c l d e f g h i j (fun a b c d e f g h i j=>K (.exit 2) (z7c a b c d e f g h i j)) :=
 z1d (by kernel_rfl) (y11 N (z00 (some z6v) K) N a b c l d e f g h i j) (by kernel_rfl)
def y16:z0p:=.mk (some z6v) none f71p16 .n
theorem f71t15 N a b c l d e f g h i j (K:KT ρ):z7s N (z7k 1611) y16 (z8e a b c l d e f g h i j) (z00 (some z6v) K) =
  z0h.Z15 N a b c l d e f g h i j (fun a b c d e f g h i j=>K .nrm (z7c a b c d e f g h i j)) :=
 z0n (by kernel_rfl) (f71t16 N (K:=z1j 2 (z00 (some z6v) K)) ..) (by kernel_rfl)
def f71p13:z0p:=.mk (some z5m) none .n y16
theorem f71t13 N a b c d e f g h i j (K:KT ρ):z7s N (z7k 587) f71p13 (z7c a b c d e f g h i j) (z00 (some z6v) K) =
  z0h.Z13 N a b c d e f g h i j (fun a b c d e f g h i j=>K .nrm (z7c a b c d e f g h i j)) :=
 z05 (fun k=>z0h.Z14 N a b c d e f g h i j k) (by kernel_rfl) (f71t14 N (K:=z16 (fun σ=>z7s N (z7k 1611) y16 σ (z00 (some z6v) K)) (z00 (some z6v) K)) ..) (zk5 fun a b c l d e f g h i j=>f71t15 N a b c l d e f g h i j K) (by kernel_rfl)
def f71p12:z0p:=.mk (some z6v) none f71p13 .n
theorem f71t12 N a b c d e f g h i j (K:KT ρ):z7s N (z7k 331) f71p12 (z7c a b c d e f g h i j) (z00 (some z6v) K) =
  z0h.Z12 N a b c d e f g h i j (fun a b c d e f g h i j=>K .nrm (z7c a b c d e f g h i j)) :=
 z0n (by kernel_rfl) (f71t13 N (K:=z1j 1 (z00 (some z6v) K)) ..) (by kernel_rfl)
theorem f71t30 N a b c d e f g h i j (K:KT ρ):z7s N (z7k 459) .n (z7c a b c d e f g h i j) (z00 (some z6v) K) =
 z0h.Z30 N a b c d e f g h i j (fun a b c d e f g h i j=>K .nrm (z7c a b c d e f g h i j)):=by kernel_rfl
def y17:z0p:=.mk (some z6v) none f71p12 .n
theorem f71t11 N a b c d e f g h i j (K:KT ρ):z7s N (z7k 203) y17 (z7c a b c d e f g h i j) (z00 (some z6v) K) =
  z0h.Z11 N a b c d e f g h i j (fun a b c d e f g h i j=>K .nrm (z7c a b c d e f g h i j)) :=
 z05 (fun k=>z0h.Z12 N a b c d e f g h i j k) (by kernel_rfl) (f71t12 N (K:=z16 (fun σ=>z7s N (z7k 459) .n σ (z00 (some z6v) K)) (z00 (some z6v) K)) ..) (zb5 fun a b c d e f g h i j=>f71t30 N a b c d e f g h i j K) (by kernel_rfl)
def f71p9:z0p:=.mk (some z6v) none .n y17
theorem f71t9 N a f g h i j b c d e (K:KT ρ):z7s N (z7k 75) f71p9 (z7c a f g h i j b c d e) (z00 (some z6v) K) =
  z0h.Z9 N a f g h i j b c d e (fun a f g h i j b c d e=>K .nrm (z7c a f g h i j b c d e)) (fun a b c d e=>K (.exit 0) (zm3 a b c d e)) :=
 z05 (fun k=>z0h.Z10 N a f g h i j b c d e k (fun a b c d e=>K (.exit 0) (zm3 a b c d e))) (by kernel_rfl) (f71t10 N (K:=z16 (fun σ=>z7s N (z7k 203) y17 σ (z00 (some z6v) K)) (z00 (some z6v) K)) ..) (zb5 fun a f g h i j b c d e=>f71t11 N a f g h i j b c d e K) (by kernel_rfl)
def f71p8:z0p:=.mk none (some z6v) f71p9 .n
abbrev f71w8 {ρ:Type} (N M:Nat) (σ:St) (K:KT ρ):Option ρ:=z2r (fun σ K=>z7s N (z7k 75) f71p9 σ K) z6v M σ K
theorem f71t8L {ρ:Type} (N:Nat) (K:KT ρ):∀ (M:Nat) (a:LI) (f g h i:Int) (j:LI) (b c d e:Int),f71w8 N M (z7c a f g h i j b c d e) K =
 z0h.Z8L N (fun a b c d e=>K (.exit 0) (zm3 a b c d e)) M a f g h i j b c d e
 | 0,_,_,_,_,_,_,_,_,_,_=>rfl
 | M + 1,a,f,g,h,i,j,b,c,d,e=>z12 (fun k=>z0h.Z9 N a f g h i j b c d e k (fun a b c d e=>K (.exit 0) (zm3 a b c d e))) (f71t9 N (K:=z16 (fun σ=>f71w8 N M σ K) K) ..) (zb5 fun a f g h i j b c d e=>f71t8L N K M a f g h i j b c d e) (by kernel_rfl)
theorem f71t8 N a f g h i j b c d e (K:KT ρ):z7s N (z7k 43) f71p8 (z7c a f g h i j b c d e) (z00 (some zj7) K) =
  z0h.Z8 N a f g h i j b c d e (fun a b c d e=>K (.exit 0) (zm3 a b c d e)) :=
 z1d (by kernel_rfl) (f71t8L N (z00 (some zj7) K) N a f g h i j b c d e) (by kernel_rfl)
def f71p7:z0p:=.mk (some zj7) none f71p8 .n
theorem f71t7 N a f g h i j b c d e (K:KT ρ):z7s N (z7k 27) f71p7 (z7c a f g h i j b c d e) (z00 (some zj7) K) =
  z0h.Z7 N a f g h i j b c d e (fun a b c d e=>K .nrm (zm3 a b c d e)) :=
 z0n (by kernel_rfl) (f71t8 N (K:=z1j 0 (z00 (some zj7) K)) ..) (by kernel_rfl)
def f71p5:z0p:=.mk (some z6v) none .n f71p7
theorem f71t5 N a f g h i b c d e (K:KT ρ):z7s N (z7k 11) f71p5 (f71s2 a f g h i b c d e) (z00 (some zj7) K) =
  z0h.Z5 N a f g h i b c d e (fun a b c d e=>K .nrm (zm3 a b c d e)) :=
 z05 (fun k=>z0h.Z6 N a f g h i b c d e k) (by kernel_rfl) (f71t6 N (K:=z16 (fun σ=>z7s N (z7k 27) f71p7 σ (z00 (some zj7) K)) (z00 (some zj7) K)) ..) (zb5 fun a f j g h i b c d e=>f71t7 N a f j g h i b c d e K) (by kernel_rfl)
theorem f71t31 N c a b d e (K:KT ρ):z7s N (z7k 15) .n (zm3 c a b d e) (z00 (some zfv) K) =
 z0h.Z31 N c a b d e (fun f a b=>K .ret (f71s9 f a b)):=by kernel_rfl
def f71p4:z0p:=.mk (some zj7) none f71p5 .n
theorem f71t4 N c f g h i a b d e (K:KT ρ):z7s N (z7k 7) f71p4 (f71s2 c f g h i a b d e) (z00 (some zfv) K) =
  z0h.Z4 N c f g h i a b d e (fun j a b=>K .ret (f71s9 j a b)) :=
 z05 (fun k=>z0h.Z5 N c f g h i a b d e k) (by kernel_rfl) (f71t5 N (K:=z16 (fun σ=>z7s N (z7k 15) .n σ (z00 (some zfv) K)) (z00 (some zfv) K)) ..) (fx5 fun c a b d e=>f71t31 N c a b d e K) (by kernel_rfl)
def f71p2:z0p:=.mk (some f71l2) none .n f71p4
theorem f71t2 N c d e f a b (K:KT ρ):z7s N (z7k 3) f71p2 (f71s1 c d e f a b) (z00 (some zfv) K) =
  z0h.Z2 N c d e f a b (fun g a b=>K .ret (f71s9 g a b)) :=
 z05 (fun k=>z0h.Z3 N c d e f a b k) (by kernel_rfl) (f71t3 N (K:=z16 (fun σ=>z7s N (z7k 7) f71p4 σ (z00 (some zfv) K)) (z00 (some zfv) K)) ..) (fx9 fun h c d e f a b i j=>f71t4 N h c d e f a b i j K) (by kernel_rfl)
def f71p0:z0p:=.mk (some f71l1) none .n f71p2
theorem f71t0 N b a (K:KT ρ):z7s N (z7k 1) f71p0 (f71s0 b a) (z00 (some zfv) K) =
  z0h.Z0 N b a (fun e c d=>K .ret (f71s9 e c d)) :=
 z05 (fun k=>z0h.Z1 N b a k) (by kernel_rfl) (f71t1 N (K:=z16 (fun σ=>z7s N (z7k 3) f71p2 σ (z00 (some zfv) K)) (z00 (some zfv) K)) ..) (fx6 fun a f g h c d=>f71t2 N a f g h c d K) (by kernel_rfl)
theorem f71m (N:Nat) (a:MT) (b:Int):z7s N (z7k 1) f71p0 (f71s0 a b) (z00 (some zfv) (z3o tab zoq Try.f71.results.toList)) = z0h.Z0 N a b (fun c d e=>some ((),((d,(e,c)),()))) :=
 (f71t0 N a b (z3o tab zoq Try.f71.results.toList)).trans (by kernel_rfl)
theorem f71ok (h:z0h.Spec):z0r Try.prog 71 e71 :=
 z0k (sig:=zoq) (c:=(z7k 1)) (pl:=f71p0) (je:=(some zfv)) (B:=f71B) Try.func71 (by kernel_rfl) (by kernel_rfl) (by kernel_rfl) z34 f71GOk (by kernel_rfl) (by kernel_rfl) (by kernel_rfl) (by kernel_rfl) fun X hb hp=>by
  obtain ⟨a,b,_⟩:=X
  obtain ⟨N,h⟩:=h a b hb.1 hp
  exact ⟨N,(f71m N a b).trans (h N (Nat.le_refl N))⟩
theorem e71ok:z0r Try.prog 71 e71:=f71ok z0h.ok
end Go.Fw
namespace Go.Fw
variable {ρ:Type}
open Go.Proofs
def zp7:Sig:=⟨[⟨.pair (.int .i64) (.pair (.int .i64) (.sl 3 (.int .i64))),true,false⟩,⟨.int .i64,false,false⟩],[⟨.pair (.int .i64) (.pair (.int .i64) (.sl 3 (.int .i64))),true,false⟩,⟨.bool,false,false⟩]⟩
def e27:z2v:=⟨zp7,none,fun X=>((),((z1f.g X.1 X.2.1).1,((z1f.g X.1 X.2.1).2,())))⟩
def f27G:Gm:=z4p (z4p (z4p z24 31 e31) 70 e70) 71 e71
theorem f27GOk:GOk Try.prog f27G:=(((GOk.nil).add y6a (by kernel_rfl)).add e70ok (by kernel_rfl)).add e71ok (by kernel_rfl)
def f27lE:z09:=⟨[],[],[],[],[]⟩
def f27s0 (a:MT) (b:Int):St:=z2j zp7.ps (a,(b,()))
def f27s1 (a:LI) (b:Bool) (c d:Int):St:=z1k [(4,xb 4),(5,xB b)] [(4,(30,[yi c,yi d,.own 20000258]))] [(20000258,(⟨3,.int .i64,a,true,false⟩:Row))]
def f27l1:z09:=⟨[4,5],[4],[⟨⟨true,4,2⟩,30000000,3,.int .i64,true⟩],[],[(⟨true,4,2⟩,20000258)]⟩
def f27B:Nat→Option z09:=z1n [(1000000,f27l1)]
abbrev f27i {ρ:Type} (N:Nat) (c:Code) (p:z0p) (σ:St) (K:KT ρ):Option ρ:=z1t f27G tab f27B N c p σ K
def f27c (n:Nat):Code:=z2x 99 (z25 Try.f27) n
theorem f27t0 N a b (K:KT ρ):f27i N (f27c 1) .n (f27s0 a b) (z00 (some f27lE) K) =
 z1f.Z0 N a b (fun c d e f=>K .ret (f27s1 c d e f)):=by kernel_rfl
theorem f27m (N:Nat) (a:MT) (b:Int):f27i N (f27c 1) .n (f27s0 a b) (z00 (some f27lE) (z3o tab zp7 Try.f27.results.toList)) = z1f.Z0 N a b (fun c d e f=>some ((),((e,(f,c)),(d,())))) :=
 (f27t0 N a b (z3o tab zp7 Try.f27.results.toList)).trans (by kernel_rfl)
theorem f27ok (h:z1f.Spec):z0r Try.prog 27 e27 :=
 z0k (sig:=zp7) (c:=(f27c 1)) (pl:=.n) (je:=(some f27lE)) (B:=f27B) Try.func27 (by kernel_rfl) (by kernel_rfl) (by kernel_rfl) z34 f27GOk (by kernel_rfl) (by kernel_rfl) (by kernel_rfl) (by kernel_rfl) fun X hb hp=>by
  obtain ⟨a,b,_⟩:=X
  obtain ⟨N,h⟩:=h a b hb.1
  exact ⟨N,(f27m N a b).trans (h N (Nat.le_refl N))⟩
theorem e27ok:z0r Try.prog 27 e27:=f27ok z1f.ok
end Go.Fw
namespace Go.Fw
variable {ρ:Type}
open Go.Proofs
def zow:Sig:=⟨[⟨.pair (.int .i64) (.pair (.int .i64) (.sl 3 (.int .i64))),true,false⟩],[⟨.pair (.int .i64) (.pair (.int .i64) (.sl 3 (.int .i64))),true,false⟩]⟩
def e48:z2v:=⟨zow,none,fun X=>((),((z2t.g X.1),()))⟩
def f48G:Gm:=z4p (z4p z24 31 e31) 91 e91
theorem f48GOk:GOk Try.prog f48G:=((GOk.nil).add y6a (by kernel_rfl)).add e91ok (by kernel_rfl)
def f48lE:z09:=⟨[],[],[],[],[]⟩
def f48s0 (a:MT):St:=z2j zow.ps (a,())
def f48s1 (a:LI) (b c:Int):St:=z1k [(2,xb 2)] [(2,(30,[yi b,yi c,.own 20000130]))] [(20000130,(⟨3,.int .i64,a,true,false⟩:Row))]
def f48l1:z09:=⟨[2],[2],[⟨⟨true,2,2⟩,30000000,3,.int .i64,true⟩],[],[(⟨true,2,2⟩,20000130)]⟩
def f48B:Nat→Option z09:=z1n [(1000000,f48l1)]
abbrev f48i {ρ:Type} (N:Nat) (c:Code) (p:z0p) (σ:St) (K:KT ρ):Option ρ:=z1t f48G tab f48B N c p σ K
def f48c (n:Nat):Code:=z2x 99 (z25 Try.f48) n
theorem f48t0 N a (K:KT ρ):f48i N (f48c 1) .n (f48s0 a) (z00 (some f48lE) K) =
 z2t.Z0 N a (fun b c d=>K .ret (f48s1 b c d)):=by kernel_rfl
theorem f48m (N:Nat) (a:MT):f48i N (f48c 1) .n (f48s0 a) (z00 (some f48lE) (z3o tab zow Try.f48.results.toList)) = z2t.Z0 N a (fun b c d=>some ((),((c,(d,b)),()))) :=
 (f48t0 N a (z3o tab zow Try.f48.results.toList)).trans (by kernel_rfl)
theorem f48ok (h:z2t.Spec):z0r Try.prog 48 e48 :=
 z0k (sig:=zow) (c:=(f48c 1)) (pl:=.n) (je:=(some f48lE)) (B:=f48B) Try.func48 (by kernel_rfl) (by kernel_rfl) (by kernel_rfl) z34 f48GOk (by kernel_rfl) (by kernel_rfl) (by kernel_rfl) (by kernel_rfl) fun X hb hp=>by
  obtain ⟨a,_⟩:=X
  obtain ⟨N,h⟩:=h a hb.1
  exact ⟨N,(f48m N a).trans (h N (Nat.le_refl N))⟩
theorem e48ok:z0r Try.prog 48 e48:=f48ok z2t.ok
end Go.Fw
namespace Go.Fw
variable {ρ:Type}
open Go.Proofs
def zov:Sig:=⟨[⟨.pair (.int .i64) (.pair (.int .i64) (.sl 3 (.int .i64))),true,false⟩],[⟨.pair (.int .i64) (.pair (.int .i64) (.sl 3 (.int .i64))),true,false⟩]⟩
def e49:z2v:=⟨zov,none,fun X=>((),((z35.g X.1),()))⟩
def f49G:Gm:=z4p (z4p z24 51 e51) 92 e92
theorem f49GOk:GOk Try.prog f49G:=((GOk.nil).add e51ok (by kernel_rfl)).add e92ok (by kernel_rfl)
def f49lE:z09:=⟨[],[],[],[],[]⟩
def f49s0 (a:MT):St:=z2j zov.ps (a,())
def f49s1 (a:LI) (b c:Int):St:=z1k [(2,xb 2)] [(2,(30,[yi b,yi c,.own 20000130]))] [(20000130,(⟨3,.int .i64,a,true,false⟩:Row))]
def f49l1:z09:=⟨[2],[2],[⟨⟨true,2,2⟩,30000000,3,.int .i64,true⟩],[],[(⟨true,2,2⟩,20000130)]⟩
def f49B:Nat→Option z09:=z1n [(1000000,f49l1)]
abbrev f49i {ρ:Type} (N:Nat) (c:Code) (p:z0p) (σ:St) (K:KT ρ):Option ρ:=z1t f49G tab f49B N c p σ K
def f49c (n:Nat):Code:=z2x 99 (z25 Try.f49) n
theorem f49t0 N a (K:KT ρ):f49i N (f49c 1) .n (f49s0 a) (z00 (some f49lE) K) =
 z35.Z0 N a (fun b c d=>K .ret (f49s1 b c d)):=by kernel_rfl
theorem f49m (N:Nat) (a:MT):f49i N (f49c 1) .n (f49s0 a) (z00 (some f49lE) (z3o tab zov Try.f49.results.toList)) = z35.Z0 N a (fun b c d=>some ((),((c,(d,b)),()))) :=
 (f49t0 N a (z3o tab zov Try.f49.results.toList)).trans (by kernel_rfl)
theorem f49ok (h:z35.Spec):z0r Try.prog 49 e49 :=
 z0k (sig:=zov) (c:=(f49c 1)) (pl:=.n) (je:=(some f49lE)) (B:=f49B) Try.func49 (by kernel_rfl) (by kernel_rfl) (by kernel_rfl) z34 f49GOk (by kernel_rfl) (by kernel_rfl) (by kernel_rfl) (by kernel_rfl) fun X hb hp=>by
  obtain ⟨a,_⟩:=X
  obtain ⟨N,h⟩:=h a hb.1
  exact ⟨N,(f49m N a).trans (h N (Nat.le_refl N))⟩
theorem e49ok:z0r Try.prog 49 e49:=f49ok z35.ok
end Go.Fw
namespace Go.Fw
variable {ρ:Type}
open Go.Proofs
def zp2:Sig:=⟨[⟨.sl 3 (.int .i64),false,false⟩,⟨.sl 3 (.int .i64),false,false⟩],[⟨.bool,false,false⟩]⟩
def e32:z2v:=⟨zp2,none,fun X=>((),((z2h.g X.1 X.2.1),()))⟩
def f32G:Gm:=z24
theorem f32GOk:GOk Try.prog f32G:=GOk.nil
def zg2:z09:=⟨[],[],[],[],[]⟩
def f32s0 (a b:LI):St:=z2j zp2.ps (a,(b,()))
def zr8 (a b:LI):St:=z1k [(0,.c (.sn 3 tI a none)),(1,.c (.sn 3 tI b none))] [] []
def f32l1:z09:=⟨[0,1],[],[],[],[]⟩
def zwf (a b:LI) (d:Int):St:=z1k [(0,.c (.sn 3 tI a none)),(1,.c (.sn 3 tI b none)),(5,xi d)] [] []
def y2c:z09:=⟨[0,1,5],[],[],[],[]⟩
def zr7 :St:=z1k [] [] []
def zjc:z09:=⟨[],[],[],[],[]⟩
def zeo (a:Bool):St:=z1k [(4,xB a)] [] []
def f32l4:z09:=⟨[4],[],[],[],[]⟩
def f32B:Nat→Option z09:=z1n [(0,zjc),(1000000,f32l4)]
abbrev zp3 {ρ:Type} (N:Nat) (c:Code) (p:z0p) (σ:St) (K:KT ρ):Option ρ:=z1t f32G tab f32B N c p σ K
def zmt (n:Nat):Code:=z2x 99 (z25 Try.f32) n
theorem f32t1 N a b (K:KT ρ):zp3 N (zmt 2) .n (f32s0 a b) (z00 (some f32l1) K) =
 z2h.Z1 N a b (fun a b=>K .nrm (zr8 a b)):=by kernel_rfl
theorem f32t3 N a b (K:KT ρ):zp3 N (zmt 5) .n (zr8 a b) (z00 (some f32l1) K) =
 z2h.Z3 N a b (fun a b=>K .nrm (zr8 a b)) (fun c=>K .ret (zeo c)):=by kernel_rfl
theorem f32t6 N a b (K:KT ρ):zp3 N (zmt 19) .n (zr8 a b) (z00 (some y2c) K) =
 z2h.Z6 N a b (fun a b c=>K .nrm (zwf a b c)):=by kernel_rfl
theorem f32t9 N a b c (K:KT ρ):zp3 N (zmt 75) .n (zwf a b c) (z00 (some y2c) K) =
 z2h.Z9 N a b c (fun a b c=>K .nrm (zwf a b c)) (K (.exit 0) zr7) (fun d=>K .ret (zeo d)):=by kernel_rfl
def f32p8:z0p:=.mk none (some y2c) .n .n
abbrev f32w8 {ρ:Type} (N M:Nat) (σ:St) (K:KT ρ):Option ρ:=z2r (fun σ K=>zp3 N (zmt 75) .n σ K) y2c M σ K
theorem f32t8L {ρ:Type} (N:Nat) (K:KT ρ):∀ (M:Nat) (a b:LI) (c:Int),f32w8 N M (zwf a b c) K =
 z2h.Z8L N (K (.exit 0) zr7) (fun d=>K .ret (zeo d)) M a b c
 | 0,_,_,_=>rfl
 | M + 1,a,b,c=>z12 (fun k=>z2h.Z9 N a b c k (K (.exit 0) zr7) (fun d=>K .ret (zeo d))) (f32t9 N (K:=z16 (fun σ=>f32w8 N M σ K) K) ..) (fx3 fun a b c=>f32t8L N K M a b c) (by kernel_rfl)
theorem f32t8 N a b c (K:KT ρ):zp3 N (zmt 43) f32p8 (zwf a b c) (z00 (some zjc) K) =
  z2h.Z8 N a b c (K (.exit 0) zr7) (fun d=>K .ret (zeo d)) :=
 z1d (by kernel_rfl) (f32t8L N (z00 (some zjc) K) N a b c) (by kernel_rfl)
def f32p7:z0p:=.mk (some zjc) none f32p8 .n
theorem f32t7 N a b c (K:KT ρ):zp3 N (zmt 27) f32p7 (zwf a b c) (z00 (some zjc) K) =
  z2h.Z7 N a b c (K .nrm zr7) (fun d=>K .ret (zeo d)) :=
 z0n (by kernel_rfl) (f32t8 N (K:=z1j 0 (z00 (some zjc) K)) ..) (by kernel_rfl)
def f32p5:z0p:=.mk (some y2c) none .n f32p7
theorem f32t5 N a b (K:KT ρ):zp3 N (zmt 11) f32p5 (zr8 a b) (z00 (some zjc) K) =
  z2h.Z5 N a b (K .nrm zr7) (fun c=>K .ret (zeo c)) :=
 z05 (fun k=>z2h.Z6 N a b k) (by kernel_rfl) (f32t6 N (K:=z16 (fun σ=>zp3 N (zmt 27) f32p7 σ (z00 (some zjc) K)) (z00 (some zjc) K)) ..) (fx3 fun a b d=>f32t7 N a b d K) (by kernel_rfl)
theorem f32t10 N  (K:KT ρ):zp3 N (zmt 15) .n zr7 (z00 (some zg2) K) =
 z2h.Z10 N (fun a=>K .ret (zeo a)):=by kernel_rfl
def f32p4:z0p:=.mk (some zjc) none f32p5 .n
theorem f32t4 N a b (K:KT ρ):zp3 N (zmt 7) f32p4 (zr8 a b) (z00 (some zg2) K) =
  z2h.Z4 N a b (fun c=>K .ret (zeo c)) :=
 z05 (fun k=>z2h.Z5 N a b k (fun c=>K .ret (zeo c))) (by kernel_rfl) (f32t5 N (K:=z16 (fun σ=>zp3 N (zmt 15) .n σ (z00 (some zg2) K)) (z00 (some zg2) K)) ..) (f32t10 N K) (by kernel_rfl)
def f32p2:z0p:=.mk (some f32l1) none .n f32p4
theorem f32t2 N a b (K:KT ρ):zp3 N (zmt 3) f32p2 (zr8 a b) (z00 (some zg2) K) =
  z2h.Z2 N a b (fun c=>K .ret (zeo c)) :=
 z05 (fun k=>z2h.Z3 N a b k (fun c=>K .ret (zeo c))) (by kernel_rfl) (f32t3 N (K:=z16 (fun σ=>zp3 N (zmt 7) f32p4 σ (z00 (some zg2) K)) (z00 (some zg2) K)) ..) (fx2 fun a b=>f32t4 N a b K) (by kernel_rfl)
def f32p0:z0p:=.mk (some f32l1) none .n f32p2
theorem f32t0 N a b (K:KT ρ):zp3 N (zmt 1) f32p0 (f32s0 a b) (z00 (some zg2) K) =
  z2h.Z0 N a b (fun c=>K .ret (zeo c)) :=
 z05 (fun k=>z2h.Z1 N a b k) (by kernel_rfl) (f32t1 N (K:=z16 (fun σ=>zp3 N (zmt 3) f32p2 σ (z00 (some zg2) K)) (z00 (some zg2) K)) ..) (fx2 fun a b=>f32t2 N a b K) (by kernel_rfl)
theorem f32m (N:Nat) (a b:LI):zp3 N (zmt 1) f32p0 (f32s0 a b) (z00 (some zg2) (z3o tab zp2 Try.f32.results.toList)) = z2h.Z0 N a b (fun c=>some ((),(c,()))) :=
 (f32t0 N a b (z3o tab zp2 Try.f32.results.toList)).trans (by kernel_rfl)
theorem f32ok (h:z2h.Spec):z0r Try.prog 32 e32 :=
 z0k (sig:=zp2) (c:=(zmt 1)) (pl:=f32p0) (je:=(some zg2)) (B:=f32B) Try.func32 (by kernel_rfl) (by kernel_rfl) (by kernel_rfl) z34 f32GOk (by kernel_rfl) (by kernel_rfl) (by kernel_rfl) (by kernel_rfl) fun X hb hp=>by
  obtain ⟨a,b,_⟩:=X
  obtain ⟨N,h⟩:=h a b hb.1 hb.2.1
  exact ⟨N,(f32m N a b).trans (h N (Nat.le_refl N))⟩
theorem e32ok:z0r Try.prog 32 e32:=f32ok z2h.ok
end Go.Fw
namespace Go.Fw
variable {ρ:Type}
open Go.Proofs
def zp5:Sig:=⟨[⟨.pair (.int .i64) (.pair (.int .i64) (.sl 3 (.int .i64))),true,false⟩,⟨.pair (.int .i64) (.pair (.int .i64) (.sl 3 (.int .i64))),true,false⟩],[⟨.bool,false,false⟩]⟩
def e30:z2v:=⟨zp5,none,fun X=>((),((z2m.g X.1 X.2.1),()))⟩
def f30G:Gm:=z4p z24 32 e32
theorem f30GOk:GOk Try.prog f30G:=(GOk.nil).add e32ok (by kernel_rfl)
def f30lE:z09:=⟨[],[],[],[],[]⟩
def f30s0 (a b:MT):St:=z2j zp5.ps (a,(b,()))
def f30s1 (a:Bool):St:=z1k [(4,xB a)] [] []
def f30l1:z09:=⟨[4],[],[],[],[]⟩
def f30B:Nat→Option z09:=z1n [(1000000,f30l1)]
abbrev f30i {ρ:Type} (N:Nat) (c:Code) (p:z0p) (σ:St) (K:KT ρ):Option ρ:=z1t f30G tab f30B N c p σ K
def f30c (n:Nat):Code:=z2x 99 (z25 Try.f30) n
theorem f30t0 N a b (K:KT ρ):f30i N (f30c 1) .n (f30s0 a b) (z00 (some f30lE) K) =
 z2m.Z0 N a b (fun c=>K .ret (f30s1 c)):=by kernel_rfl
theorem f30m (N:Nat) (a b:MT):f30i N (f30c 1) .n (f30s0 a b) (z00 (some f30lE) (z3o tab zp5 Try.f30.results.toList)) = z2m.Z0 N a b (fun c=>some ((),(c,()))) :=
 (f30t0 N a b (z3o tab zp5 Try.f30.results.toList)).trans (by kernel_rfl)
theorem f30ok (h:z2m.Spec):z0r Try.prog 30 e30 :=
 z0k (sig:=zp5) (c:=(f30c 1)) (pl:=.n) (je:=(some f30lE)) (B:=f30B) Try.func30 (by kernel_rfl) (by kernel_rfl) (by kernel_rfl) z34 f30GOk (by kernel_rfl) (by kernel_rfl) (by kernel_rfl) (by kernel_rfl) fun X hb hp=>by
  obtain ⟨a,b,_⟩:=X
  obtain ⟨N,h⟩:=h a b hb.1 hb.2.1
  exact ⟨N,(f30m N a b).trans (h N (Nat.le_refl N))⟩
theorem e30ok:z0r Try.prog 30 e30:=f30ok z2m.ok
end Go.Fw
namespace Go.Fw
variable {ρ:Type}
open Go.Proofs
def f113rf:Rf:=none
def f113ps:List PT:=[⟨.sl 3 (.int .i64),false,true⟩,⟨.int .i64,false,false⟩,⟨.sl 3 (.int .i64),false,true⟩]
def f113rs:List PT:=[⟨.sl 3 (.int .i64),false,false⟩]
def e113:zat:=⟨f113rf,f113ps,f113rs,(some fun X=>z1s.P X.2.1 X.2.2.1 X.2.2.2.1),fun X=>((),((z1s.g X.2.1 X.2.2.1 X.2.2.2.1),()))⟩
def f113ren:Go.Shelf.Ren:=⟨fun | 21=>113 | 27=>130 | 28=>131 | 35=>138 | 39=>139 | n=>n,fun | 22=>22 | 3=>3 | 4=>4 | 0=>0 | n=>n,fun n=>n⟩
theorem f113lay:Lays2.n21 Try.prog f113ren:={ mixed:=(by kernel_rfl),f21:=Try.func113.trans (congrArg some (by kernel_rfl)),f27:=Try.func130.trans (congrArg some (by kernel_rfl)),f28:=Try.func131.trans (congrArg some (by kernel_rfl)),f35:=Try.func138.trans (congrArg some (by kernel_rfl)),f39:=Try.func139.trans (congrArg some (by kernel_rfl)),t0:=Try.underlying0,a0:=Try.isAgg0,z0:=Try.sizeOf0,v0:=Try.zeroValue0,t3:=Try.underlying3,a3:=Try.isAgg3,z3:=Try.sizeOf3,v3:=Try.zeroValue3,t4:=Try.underlying4,a4:=Try.isAgg4,z4:=Try.sizeOf4,v4:=Try.zeroValue4,t22:=Try.underlying22,a22:=Try.isAgg22,z22:=Try.sizeOf22,v22:=Try.zeroValue22,i3:=(by kernel_rfl) }
theorem f113ok (_:True):z56 Try.prog 113 e113:=zyg f113lay
theorem e113ok:z56 Try.prog 113 e113:=f113ok z1s.ok
end Go.Fw
namespace Go.Fw
variable {ρ:Type}
open Go.Proofs
def zod:Sig:=⟨[⟨.int .i64,false,false⟩],[⟨.sl 22 (.sl 3 (.int .i64)),false,false⟩]⟩
def e86:z2v:=⟨zod,(some fun X=>z0i.P X.1),fun X=>((),((z0i.g X.1),()))⟩
def f86G:Gm:=addM (z4p z24 91 e91) 113 e113
theorem f86GOk:GOk Try.prog f86G:=((GOk.nil).add e91ok (by kernel_rfl)).addM e113ok (by kernel_rfl)
def zfs:z09:=⟨[],[],[],[],[]⟩
def f86s0 (a:Int):St:=z2j zod.ps (a,())
def f86s1 (a:Int):St:=z1k [(0,xi a)] [] []
def f86l1:z09:=⟨[0],[],[],[],[]⟩
def f86s2 (a:LL) (b:Int):St:=z1k [(0,xi b),(3,xo 1000192)] [] [(1000192,(⟨22,.sl 3 tI,a,true,false⟩:Row))]
def f86l2:z09:=⟨[0,3],[],[],[],[(⟨false,3,0⟩,1000192)]⟩
def z99 (a:LL) (b c:Int):St:=z1k [(0,xi b),(3,xo 1000192),(4,xi c)] [] [(1000192,(⟨22,.sl 3 tI,a,true,false⟩:Row))]
def z76:z09:=⟨[0,3,4],[],[],[],[(⟨false,3,0⟩,1000192)]⟩
def f86s4 (a:LL) (b d:Int):St:=z1k [(0,xi b),(3,xo 1000192),(4,xi d),(5,.c (.nil))] [] [(1000192,(⟨22,.sl 3 tI,a,true,false⟩:Row))]
def f86l4:z09:=⟨[0,3,4,5],[],[],[],[(⟨false,3,0⟩,1000192)]⟩
def f86s5 (a:LL) (b d e f:Int):St:=z1k [(0,xi b),(4,xi d),(5,.c (.nil)),(15,xo 1000960),(16,xi e),(17,xi f)] [] [(1000960,(⟨22,.sl 3 tI,a,true,false⟩:Row))]
def f86l5:z09:=⟨[0,4,5,15,16,17],[],[],[],[(⟨false,15,0⟩,1000960)]⟩
def z85 (a b:LL) (c d e f:Int):St:=z1k [(0,xi c),(4,xi d),(5,xo 1000320),(15,xo 1000960),(16,xi e),(17,xi f)] [] [(1000320,(⟨22,.sl 3 tI,a,true,false⟩:Row)),(1000960,(⟨22,.sl 3 tI,b,true,false⟩:Row))]
def z6e:z09:=⟨[0,4,5,15,16,17],[],[],[],[(⟨false,5,0⟩,1000320),(⟨false,15,0⟩,1000960)]⟩
def zhe (a b:LL) (c d e f:Int):St:=z1k [(0,xi c),(4,xi d),(5,xo 1000320),(15,xo 1000960),(16,xi e),(17,xi f)] [] [(1000320,(⟨22,.sl 3 tI,a,true,false⟩:Row)),(1000960,(⟨22,.sl 3 tI,b,true,false⟩:Row))]
def z9m:z09:=⟨[0,4,5,15,16,17],[],[⟨⟨false,5,0⟩,30000000,22,.sl 3 (.int .i64),true⟩],[],[(⟨false,5,0⟩,1000320),(⟨false,15,0⟩,1000960)]⟩
def zzf (a b:LL) (c d e f:Int) (g:Bool):St:=z1k [(0,xi c),(4,xi d),(5,xo 1000320),(15,xo 1000960),(16,xi e),(17,xi f),(18,xB g)] [] [(1000320,(⟨22,.sl 3 tI,a,true,false⟩:Row)),(1000960,(⟨22,.sl 3 tI,b,true,false⟩:Row))]
def f86l12:z09:=⟨[0,4,5,15,16,17,18],[],[],[],[(⟨false,5,0⟩,1000320),(⟨false,15,0⟩,1000960)]⟩
def zze (a b:LL) (d e:Int) (f:LI) (g h:Int):St:=z1k [(0,xi d),(4,xi e),(5,xo 1000320),(7,.c (.sn 3 tI f (some 1000960))),(15,xo 1000960),(16,xi g),(17,xi h)] [] [(1000320,(⟨22,.sl 3 tI,a,true,false⟩:Row)),(1000960,(⟨22,.sl 3 tI,b,true,false⟩:Row))]
def f86l13:z09:=⟨[0,4,5,7,15,16,17],[],[],[],[(⟨false,5,0⟩,1000320),(⟨false,15,0⟩,1000960)]⟩
def zk8 (a b:LL) (d e:Int) (f:LI) (g h i:Int):St:=z1k [(0,xi d),(4,xi e),(5,xo 1000320),(7,.c (.sn 3 tI f (some 1000960))),(8,xi g),(15,xo 1000960),(16,xi h),(17,xi i)] [] [(1000320,(⟨22,.sl 3 tI,a,true,false⟩:Row)),(1000960,(⟨22,.sl 3 tI,b,true,false⟩:Row))]
def zoe:z09:=⟨[0,4,5,7,8,15,16,17],[],[],[],[(⟨false,5,0⟩,1000320),(⟨false,15,0⟩,1000960)]⟩
def zbd (a:LL) (b c:Int):St:=z1k [(0,xi b),(4,xi c),(5,xo 1000320)] [] [(1000320,(⟨22,.sl 3 tI,a,true,false⟩:Row))]
def zbf:z09:=⟨[0,4,5],[],[],[],[(⟨false,5,0⟩,1000320)]⟩
def zdp (a:LL):St:=z1k [(3,xo 1000192)] [] [(1000192,(⟨22,.sl 3 tI,a,true,false⟩:Row))]
def zbe:z09:=⟨[3],[],[],[],[(⟨false,3,0⟩,1000192)]⟩
def ztq (a:LL):St:=z1k [(2,xo 1000128)] [] [(1000128,(⟨22,.sl 3 tI,a,true,false⟩:Row))]
def f86l17:z09:=⟨[2],[],[],[],[(⟨false,2,0⟩,1000128)]⟩
def f86B:Nat→Option z09:=z1n [(4,z6e),(3,z6e),(2,zbf),(1,z76),(0,zbe),(1000000,f86l17)]
abbrev z6s {ρ:Type} (N:Nat) (c:Code) (p:z0p) (σ:St) (K:KT ρ):Option ρ:=z1t f86G tab f86B N c p σ K
def z6k (n:Nat):Code:=z2x 99 (z25 Try.f86) n
theorem f86t1 N a (K:KT ρ):z6s N (z6k 2) .n (f86s0 a) (z00 (some f86l1) K) =
 z0i.Z1 N a (fun a=>K .nrm (f86s1 a)):=by kernel_rfl
theorem f86t3 N a (K:KT ρ):z6s N (z6k 5) .n (f86s1 a) (z00 (some f86l2) K) =
 z0i.Z3 N a (fun b a=>K .nrm (f86s2 b a)):=by kernel_rfl
theorem f86t6 N a b (K:KT ρ):z6s N (z6k 19) .n (f86s2 a b) (z00 (some z76) K) =
 z0i.Z6 N a b (fun a b c=>K .nrm (z99 a b c)):=by kernel_rfl
theorem f86t10 N a b c (K:KT ρ):z6s N (z6k 139) .n (z99 a b c) (z00 (some z76) K) =
 z0i.Z10 N a b c (fun a b c=>K .nrm (z99 a b c)) (fun a=>K (.exit 0) (zdp a)):=by kernel_rfl
theorem f86t14 N a b c (K:KT ρ):z6s N (z6k 1099) .n (z99 a b c) (z00 (some f86l4) K) =
 z0i.Z14 N a b c (fun a b c=>K .nrm (f86s4 a b c)):=by kernel_rfl
theorem f86t17 N c a b (K:KT ρ):z6s N (z6k 4683) .n (f86s4 c a b) (z00 (some f86l5) K) =
 z0i.Z17 N c a b (fun d a b e f=>K .nrm (f86s5 d a b e f)):=by kernel_rfl
theorem f86t21 N a b c d e f (K:KT ρ):z6s N (z6k 35403) .n (zhe a b c d e f) (z00 (some f86l12) K) =
 z0i.Z21 N a b c d e f (fun a b c d e f g=>K .nrm (zzf a b c d e f g)):=by kernel_rfl
theorem f86t23 N a d b c e f g (K:KT ρ):z6s N (z6k 84555) .n (zzf a d b c e f g) (z00 (some z6e) K) =
 z0i.Z23 N a d b c e f g (fun a d b c e f=>K .nrm (z85 a d b c e f)) (fun a b c=>K (.exit 2) (zbd a b c)):=by kernel_rfl
theorem f86t27 N a b c d e f (K:KT ρ):z6s N (z6k 576075) .n (z85 a b c d e f) (z00 (some f86l13) K) =
 z0i.Z27 N a b c d e f (fun a b c d g e f=>K .nrm (zze a b c d g e f)):=by kernel_rfl
theorem f86t29 N a b c d e f g (K:KT ρ):z6s N (z6k 1362507) .n (zze a b c d e f g) (z00 (some zoe) K) =
 z0i.Z29 N a b c d e f g (fun a b c d e h f g=>K .nrm (zk8 a b c d e h f g)):=by kernel_rfl
theorem f86t32 N a b c d g h e f (K:KT ρ):z6s N (z6k 5032523) .n (zk8 a b c d g h e f) (z00 (some zoe) K) =
 z0i.Z32 N a b c d g h e f (fun a b c d g h e f=>K .nrm (zk8 a b c d g h e f)) (fun a b c d e f=>K (.exit 4) (z85 a b c d e f)):=by kernel_rfl
def f86p31:z0p:=.mk none (some zoe) .n .n
abbrev f86w31 {ρ:Type} (N M:Nat) (σ:St) (K:KT ρ):Option ρ:=z2r (fun σ K=>z6s N (z6k 5032523) .n σ K) zoe M σ K
theorem zzc {ρ:Type} (N:Nat) (K:KT ρ):∀ (M:Nat) (a b:LL) (c d:Int) (g:LI) (h e f:Int),f86w31 N M (zk8 a b c d g h e f) K =
 z0i.Z31L N (fun a b c d e f=>K (.exit 4) (z85 a b c d e f)) M a b c d g h e f
 | 0,_,_,_,_,_,_,_,_=>rfl
 | M + 1,a,b,c,d,g,h,e,f=>z12 (fun k=>z0i.Z32 N a b c d g h e f k (fun a b c d e f=>K (.exit 4) (z85 a b c d e f))) (f86t32 N (K:=z16 (fun σ=>f86w31 N M σ K) K) ..) (fx8 fun a b c d g h e f=>zzc N K M a b c d g h e f) (by kernel_rfl)
theorem f86t31 N a b c d g h e f (K:KT ρ):z6s N (z6k 2935371) f86p31 (zk8 a b c d g h e f) (z00 (some z6e) K) =
  z0i.Z31 N a b c d g h e f (fun a b c d e f=>K (.exit 4) (z85 a b c d e f)) :=
 z1d (by kernel_rfl) (zzc N (z00 (some z6e) K) N a b c d g h e f) (by kernel_rfl)
def zzg:z0p:=.mk (some z6e) none f86p31 .n
theorem f86t30 N a b c d g h e f (K:KT ρ):z6s N (z6k 1886795) zzg (zk8 a b c d g h e f) (z00 (some z6e) K) =
  z0i.Z30 N a b c d g h e f (fun a b c d e f=>K .nrm (z85 a b c d e f)) :=
 z0n (by kernel_rfl) (f86t31 N (K:=z1j 4 (z00 (some z6e) K)) ..) (by kernel_rfl)
def zzh:z0p:=.mk (some zoe) none .n zzg
theorem f86t28 N a b c d g e f (K:KT ρ):z6s N (z6k 838219) zzh (zze a b c d g e f) (z00 (some z6e) K) =
  z0i.Z28 N a b c d g e f (fun a b c d e f=>K .nrm (z85 a b c d e f)) :=
 z05 (fun k=>z0i.Z29 N a b c d g e f k) (by kernel_rfl) (f86t29 N (K:=z16 (fun σ=>z6s N (z6k 1886795) zzg σ (z00 (some z6e) K)) (z00 (some z6e) K)) ..) (fx8 fun a b c d g h e f=>f86t30 N a b c d g h e f K) (by kernel_rfl)
def f86p26:z0p:=.mk (some f86l13) none .n zzh
theorem f86t26 N a b c d e f (K:KT ρ):z6s N (z6k 313931) f86p26 (z85 a b c d e f) (z00 (some z6e) K) =
  z0i.Z26 N a b c d e f (fun a b c d e f=>K .nrm (z85 a b c d e f)) :=
 z05 (fun k=>z0i.Z27 N a b c d e f k) (by kernel_rfl) (f86t27 N (K:=z16 (fun σ=>z6s N (z6k 838219) zzh σ (z00 (some z6e) K)) (z00 (some z6e) K)) ..) (fx7 fun a b c d g e f=>f86t28 N a b c d g e f K) (by kernel_rfl)
def f86p25:z0p:=.mk (some z6e) none f86p26 .n
theorem f86t25 N a b c d e f (K:KT ρ):z6s N (z6k 182859) f86p25 (z85 a b c d e f) (z00 (some z6e) K) =
  z0i.Z25 N a b c d e f (fun a b c d e f=>K .nrm (z85 a b c d e f)) :=
 z0n (by kernel_rfl) (f86t26 N (K:=z1j 3 (z00 (some z6e) K)) ..) (by kernel_rfl)
theorem f86t33 N a b c d e f (K:KT ρ):z6s N (z6k 248395) .n (z85 a b c d e f) (z00 (some z9m) K) =
 z0i.Z33 N a b c d e f (fun a b c d e f=>K .nrm (zhe a b c d e f)):=by kernel_rfl
def zzi:z0p:=.mk (some z6e) none f86p25 .n
theorem f86t24 N a b c d e f (K:KT ρ):z6s N (z6k 117323) zzi (z85 a b c d e f) (z00 (some z9m) K) =
  z0i.Z24 N a b c d e f (fun a b c d e f=>K .nrm (zhe a b c d e f)) :=
 z05 (fun k=>z0i.Z25 N a b c d e f k) (by kernel_rfl) (f86t25 N (K:=z16 (fun σ=>z6s N (z6k 248395) .n σ (z00 (some z9m) K)) (z00 (some z9m) K)) ..) (fx6 fun a b c d e f=>f86t33 N a b c d e f K) (by kernel_rfl)
def zzj:z0p:=.mk (some z6e) none .n zzi
theorem f86t22 N a d b c e f g (K:KT ρ):z6s N (z6k 51787) zzj (zzf a d b c e f g) (z00 (some z9m) K) =
  z0i.Z22 N a d b c e f g (fun a d b c e f=>K .nrm (zhe a d b c e f)) (fun a b c=>K (.exit 2) (zbd a b c)) :=
 z05 (fun k=>z0i.Z23 N a d b c e f g k (fun a b c=>K (.exit 2) (zbd a b c))) (by kernel_rfl) (f86t23 N (K:=z16 (fun σ=>z6s N (z6k 117323) zzi σ (z00 (some z9m) K)) (z00 (some z9m) K)) ..) (fx6 fun a d b c e f=>f86t24 N a d b c e f K) (by kernel_rfl)
def zzk:z0p:=.mk (some f86l12) none .n zzj
theorem f86t20 N a d b c e f (K:KT ρ):z6s N (z6k 19019) zzk (zhe a d b c e f) (z00 (some z9m) K) =
  z0i.Z20 N a d b c e f (fun a d b c e f=>K .nrm (zhe a d b c e f)) (fun a b c=>K (.exit 2) (zbd a b c)) :=
 z05 (fun k=>z0i.Z21 N a d b c e f k) (by kernel_rfl) (f86t21 N (K:=z16 (fun σ=>z6s N (z6k 51787) zzj σ (z00 (some z9m) K)) (z00 (some z9m) K)) ..) (fx7 fun a d b c e f g=>f86t22 N a d b c e f g K) (by kernel_rfl)
def f86p19:z0p:=.mk none (some z9m) zzk .n
abbrev f86w19 {ρ:Type} (N M:Nat) (σ:St) (K:KT ρ):Option ρ:=z2r (fun σ K=>z6s N (z6k 19019) zzk σ K) z9m M σ K
theorem zzd {ρ:Type} (N:Nat) (K:KT ρ):∀ (M:Nat) (a d:LL) (b c e f:Int),f86w19 N M (zhe a d b c e f) K =
 z0i.Z19L N (fun a b c=>K (.exit 2) (zbd a b c)) M a d b c e f
 | 0,_,_,_,_,_,_=>rfl
 | M + 1,a,d,b,c,e,f=>z12 (fun k=>z0i.Z20 N a d b c e f k (fun a b c=>K (.exit 2) (zbd a b c))) (f86t20 N (K:=z16 (fun σ=>f86w19 N M σ K) K) ..) (fx6 fun a d b c e f=>zzd N K M a d b c e f) (by kernel_rfl)
theorem f86t19 N c a b d e (K:KT ρ):z6s N (z6k 10827) f86p19 (f86s5 c a b d e) (z00 (some zbf) K) =
  z0i.Z19 N c a b d e (fun f a b=>K (.exit 2) (zbd f a b)) :=
 z1d (by kernel_rfl) (zzd N (z00 (some zbf) K) N ([]:List (LI)) c a b d e) (by kernel_rfl)
def zzl:z0p:=.mk (some zbf) none f86p19 .n
theorem f86t18 N c a b d e (K:KT ρ):z6s N (z6k 6731) zzl (f86s5 c a b d e) (z00 (some zbf) K) =
  z0i.Z18 N c a b d e (fun f a b=>K .nrm (zbd f a b)) :=
 z0n (by kernel_rfl) (f86t19 N (K:=z1j 2 (z00 (some zbf) K)) ..) (by kernel_rfl)
def f86p16:z0p:=.mk (some f86l5) none .n zzl
theorem f86t16 N c a b (K:KT ρ):z6s N (z6k 2635) f86p16 (f86s4 c a b) (z00 (some zbf) K) =
  z0i.Z16 N c a b (fun d a b=>K .nrm (zbd d a b)) :=
 z05 (fun k=>z0i.Z17 N c a b k) (by kernel_rfl) (f86t17 N (K:=z16 (fun σ=>z6s N (z6k 6731) zzl σ (z00 (some zbf) K)) (z00 (some zbf) K)) ..) (fx5 fun e a b f g=>f86t18 N e a b f g K) (by kernel_rfl)
theorem f86t34 N c a b (K:KT ρ):z6s N (z6k 3659) .n (zbd c a b) (z00 (some z76) K) =
 z0i.Z34 N c a b (fun d a b=>K .nrm (z99 d a b)):=by kernel_rfl
def zzm:z0p:=.mk (some zbf) none f86p16 .n
theorem f86t15 N c a b (K:KT ρ):z6s N (z6k 1611) zzm (f86s4 c a b) (z00 (some z76) K) =
  z0i.Z15 N c a b (fun c a b=>K .nrm (z99 c a b)) :=
 z05 (fun k=>z0i.Z16 N c a b k) (by kernel_rfl) (f86t16 N (K:=z16 (fun σ=>z6s N (z6k 3659) .n σ (z00 (some z76) K)) (z00 (some z76) K)) ..) (fx3 fun d a b=>f86t34 N d a b K) (by kernel_rfl)
def f86p13:z0p:=.mk (some f86l4) none .n zzm
theorem f86t13 N a b c (K:KT ρ):z6s N (z6k 587) f86p13 (z99 a b c) (z00 (some z76) K) =
  z0i.Z13 N a b c (fun a b c=>K .nrm (z99 a b c)) :=
 z05 (fun k=>z0i.Z14 N a b c k) (by kernel_rfl) (f86t14 N (K:=z16 (fun σ=>z6s N (z6k 1611) zzm σ (z00 (some z76) K)) (z00 (some z76) K)) ..) (fx3 fun a b c=>f86t15 N a b c K) (by kernel_rfl)
def f86p12:z0p:=.mk (some z76) none f86p13 .n
theorem f86t12 N a b c (K:KT ρ):z6s N (z6k 331) f86p12 (z99 a b c) (z00 (some z76) K) =
  z0i.Z12 N a b c (fun a b c=>K .nrm (z99 a b c)) :=
 z0n (by kernel_rfl) (f86t13 N (K:=z1j 1 (z00 (some z76) K)) ..) (by kernel_rfl)
theorem f86t35 N a b c (K:KT ρ):z6s N (z6k 459) .n (z99 a b c) (z00 (some z76) K) =
 z0i.Z35 N a b c (fun a b c=>K .nrm (z99 a b c)):=by kernel_rfl
def zzn:z0p:=.mk (some z76) none f86p12 .n
theorem f86t11 N a b c (K:KT ρ):z6s N (z6k 203) zzn (z99 a b c) (z00 (some z76) K) =
  z0i.Z11 N a b c (fun a b c=>K .nrm (z99 a b c)) :=
 z05 (fun k=>z0i.Z12 N a b c k) (by kernel_rfl) (f86t12 N (K:=z16 (fun σ=>z6s N (z6k 459) .n σ (z00 (some z76) K)) (z00 (some z76) K)) ..) (fx3 fun a b c=>f86t35 N a b c K) (by kernel_rfl)
def f86p9:z0p:=.mk (some z76) none .n zzn
theorem f86t9 N a b c (K:KT ρ):z6s N (z6k 75) f86p9 (z99 a b c) (z00 (some z76) K) =
  z0i.Z9 N a b c (fun a b c=>K .nrm (z99 a b c)) (fun a=>K (.exit 0) (zdp a)) :=
 z05 (fun k=>z0i.Z10 N a b c k (fun a=>K (.exit 0) (zdp a))) (by kernel_rfl) (f86t10 N (K:=z16 (fun σ=>z6s N (z6k 203) zzn σ (z00 (some z76) K)) (z00 (some z76) K)) ..) (fx3 fun a b c=>f86t11 N a b c K) (by kernel_rfl)
def f86p8:z0p:=.mk none (some z76) f86p9 .n
abbrev f86w8 {ρ:Type} (N M:Nat) (σ:St) (K:KT ρ):Option ρ:=z2r (fun σ K=>z6s N (z6k 75) f86p9 σ K) z76 M σ K
theorem f86t8L {ρ:Type} (N:Nat) (K:KT ρ):∀ (M:Nat) (a:LL) (b c:Int),f86w8 N M (z99 a b c) K =
 z0i.Z8L N (fun a=>K (.exit 0) (zdp a)) M a b c
 | 0,_,_,_=>rfl
 | M + 1,a,b,c=>z12 (fun k=>z0i.Z9 N a b c k (fun a=>K (.exit 0) (zdp a))) (f86t9 N (K:=z16 (fun σ=>f86w8 N M σ K) K) ..) (fx3 fun a b c=>f86t8L N K M a b c) (by kernel_rfl)
theorem f86t8 N a b c (K:KT ρ):z6s N (z6k 43) f86p8 (z99 a b c) (z00 (some zbe) K) =
  z0i.Z8 N a b c (fun a=>K (.exit 0) (zdp a)) :=
 z1d (by kernel_rfl) (f86t8L N (z00 (some zbe) K) N a b c) (by kernel_rfl)
def f86p7:z0p:=.mk (some zbe) none f86p8 .n
theorem f86t7 N a b c (K:KT ρ):z6s N (z6k 27) f86p7 (z99 a b c) (z00 (some zbe) K) =
  z0i.Z7 N a b c (fun a=>K .nrm (zdp a)) :=
 z0n (by kernel_rfl) (f86t8 N (K:=z1j 0 (z00 (some zbe) K)) ..) (by kernel_rfl)
def f86p5:z0p:=.mk (some z76) none .n f86p7
theorem f86t5 N a b (K:KT ρ):z6s N (z6k 11) f86p5 (f86s2 a b) (z00 (some zbe) K) =
  z0i.Z5 N a b (fun a=>K .nrm (zdp a)) :=
 z05 (fun k=>z0i.Z6 N a b k) (by kernel_rfl) (f86t6 N (K:=z16 (fun σ=>z6s N (z6k 27) f86p7 σ (z00 (some zbe) K)) (z00 (some zbe) K)) ..) (fx3 fun a b c=>f86t7 N a b c K) (by kernel_rfl)
theorem f86t36 N a (K:KT ρ):z6s N (z6k 15) .n (zdp a) (z00 (some zfs) K) =
 z0i.Z36 N a (fun b=>K .ret (ztq b)):=by kernel_rfl
def f86p4:z0p:=.mk (some zbe) none f86p5 .n
theorem f86t4 N a b (K:KT ρ):z6s N (z6k 7) f86p4 (f86s2 a b) (z00 (some zfs) K) =
  z0i.Z4 N a b (fun c=>K .ret (ztq c)) :=
 z05 (fun k=>z0i.Z5 N a b k) (by kernel_rfl) (f86t5 N (K:=z16 (fun σ=>z6s N (z6k 15) .n σ (z00 (some zfs) K)) (z00 (some zfs) K)) ..) (funext fun a=>f86t36 N a K) (by kernel_rfl)
def f86p2:z0p:=.mk (some f86l2) none .n f86p4
theorem f86t2 N a (K:KT ρ):z6s N (z6k 3) f86p2 (f86s1 a) (z00 (some zfs) K) =
  z0i.Z2 N a (fun b=>K .ret (ztq b)) :=
 z05 (fun k=>z0i.Z3 N a k) (by kernel_rfl) (f86t3 N (K:=z16 (fun σ=>z6s N (z6k 7) f86p4 σ (z00 (some zfs) K)) (z00 (some zfs) K)) ..) (fx2 fun c a=>f86t4 N c a K) (by kernel_rfl)
def f86p0:z0p:=.mk (some f86l1) none .n f86p2
theorem f86t0 N a (K:KT ρ):z6s N (z6k 1) f86p0 (f86s0 a) (z00 (some zfs) K) =
  z0i.Z0 N a (fun b=>K .ret (ztq b)) :=
 z05 (fun k=>z0i.Z1 N a k) (by kernel_rfl) (f86t1 N (K:=z16 (fun σ=>z6s N (z6k 3) f86p2 σ (z00 (some zfs) K)) (z00 (some zfs) K)) ..) (funext fun a=>f86t2 N a K) (by kernel_rfl)
theorem f86m (N:Nat) (a:Int):z6s N (z6k 1) f86p0 (f86s0 a) (z00 (some zfs) (z3o tab zod Try.f86.results.toList)) = z0i.Z0 N a (fun b=>some ((),(b,()))) :=
 (f86t0 N a (z3o tab zod Try.f86.results.toList)).trans (by kernel_rfl)
theorem f86ok (h:z0i.Spec):z0r Try.prog 86 e86 :=
 z0k (sig:=zod) (c:=(z6k 1)) (pl:=f86p0) (je:=(some zfs)) (B:=f86B) Try.func86 (by kernel_rfl) (by kernel_rfl) (by kernel_rfl) z34 f86GOk (by kernel_rfl) (by kernel_rfl) (by kernel_rfl) (by kernel_rfl) fun X hb hp=>by
  obtain ⟨a,_⟩:=X
  obtain ⟨N,h⟩:=h a hp
  exact ⟨N,(f86m N a).trans (h N (Nat.le_refl N))⟩
theorem e86ok:z0r Try.prog 86 e86:=f86ok z0i.ok
end Go.Fw
namespace Go.Fw
variable {ρ:Type}
open Go.Proofs
def zhm:Sig:=⟨[⟨.int .i64,false,false⟩],[⟨.bool,false,false⟩]⟩
def e132:z2v:=⟨zhm,none,fun X=>((),((z32.g X.1),()))⟩
def f132G:Gm:=z24
theorem f132GOk:GOk Try.prog f132G:=GOk.nil
def y2t:z09:=⟨[],[],[],[],[]⟩
def f132s0 (a:Int):St:=z2j zhm.ps (a,())
def f132s1 (a:Bool):St:=z1k [(2,xB a)] [] []
def f132l1:z09:=⟨[2],[],[],[],[]⟩
def f132B:Nat→Option z09:=z1n [(1000000,f132l1)]
abbrev f132i {ρ:Type} (N:Nat) (c:Code) (p:z0p) (σ:St) (K:KT ρ):Option ρ:=z1t f132G tab f132B N c p σ K
def f132c (n:Nat):Code:=z2x 99 (z25 Try.f132) n
theorem f132t0 N a (K:KT ρ):f132i N (f132c 1) .n (f132s0 a) (z00 (some y2t) K) =
 z32.Z0 N a (fun b=>K .ret (f132s1 b)):=by kernel_rfl
theorem f132m (N:Nat) (a:Int):f132i N (f132c 1) .n (f132s0 a) (z00 (some y2t) (z3o tab zhm Try.f132.results.toList)) = z32.Z0 N a (fun b=>some ((),(b,()))) :=
 (f132t0 N a (z3o tab zhm Try.f132.results.toList)).trans (by kernel_rfl)
theorem f132ok (h:z32.Spec):z0r Try.prog 132 e132 :=
 z0k (sig:=zhm) (c:=(f132c 1)) (pl:=.n) (je:=(some y2t)) (B:=f132B) Try.func132 (by kernel_rfl) (by kernel_rfl) (by kernel_rfl) z34 f132GOk (by kernel_rfl) (by kernel_rfl) (by kernel_rfl) (by kernel_rfl) fun X hb hp=>by
  obtain ⟨a,_⟩:=X
  obtain ⟨N,h⟩:=h a
  exact ⟨N,(f132m N a).trans (h N (Nat.le_refl N))⟩
theorem e132ok:z0r Try.prog 132 e132:=f132ok z32.ok
end Go.Fw
namespace Go.Fw
variable {ρ:Type}
open Go.Proofs
def zi5:Sig:=⟨[⟨.int .i64,false,false⟩,⟨.int .i64,false,false⟩],[⟨.int .i64,false,false⟩]⟩
def e114:z2v:=⟨zi5,none,fun X=>((),((z2e.g X.1 X.2.1),()))⟩
def f114G:Gm:=z4p z24 132 e132
theorem f114GOk:GOk Try.prog f114G:=(GOk.nil).add e132ok (by kernel_rfl)
def y50:z09:=⟨[],[],[],[],[]⟩
def f114s0 (a b:Int):St:=z2j zi5.ps (a,(b,()))
def f114s1 (a:Int):St:=z1k [(4,xi a)] [] []
def f114l1:z09:=⟨[4],[],[],[],[]⟩
def f114B:Nat→Option z09:=z1n [(1000000,f114l1)]
abbrev f114i {ρ:Type} (N:Nat) (c:Code) (p:z0p) (σ:St) (K:KT ρ):Option ρ:=z1t f114G tab f114B N c p σ K
def f114c (n:Nat):Code:=z2x 99 (z25 Try.f114) n
theorem f114t0 N a b (K:KT ρ):f114i N (f114c 1) .n (f114s0 a b) (z00 (some y50) K) =
 z2e.Z0 N a b (fun c=>K .ret (f114s1 c)):=by kernel_rfl
theorem f114m (N:Nat) (a b:Int):f114i N (f114c 1) .n (f114s0 a b) (z00 (some y50) (z3o tab zi5 Try.f114.results.toList)) = z2e.Z0 N a b (fun c=>some ((),(c,()))) :=
 (f114t0 N a b (z3o tab zi5 Try.f114.results.toList)).trans (by kernel_rfl)
theorem f114ok (h:z2e.Spec):z0r Try.prog 114 e114 :=
 z0k (sig:=zi5) (c:=(f114c 1)) (pl:=.n) (je:=(some y50)) (B:=f114B) Try.func114 (by kernel_rfl) (by kernel_rfl) (by kernel_rfl) z34 f114GOk (by kernel_rfl) (by kernel_rfl) (by kernel_rfl) (by kernel_rfl) fun X hb hp=>by
  obtain ⟨a,b,_⟩:=X
  obtain ⟨N,h⟩:=h a b
  exact ⟨N,(f114m N a b).trans (h N (Nat.le_refl N))⟩
theorem e114ok:z0r Try.prog 114 e114:=f114ok z2e.ok
end Go.Fw
namespace Go.Fw
variable {ρ:Type}
open Go.Proofs
def zoc:Sig:=⟨[⟨.sl 3 (.int .i64),false,false⟩,⟨.sl 3 (.int .i64),false,false⟩],[⟨.int .i64,false,false⟩]⟩
def e87:z2v:=⟨zoc,none,fun X=>((),((z0m.g X.1 X.2.1),()))⟩
def f87G:Gm:=z4p z24 114 e114
theorem f87GOk:GOk Try.prog f87G:=(GOk.nil).add e114ok (by kernel_rfl)
def zlz:z09:=⟨[],[],[],[],[]⟩
def f87s0 (a b:LI):St:=z2j zoc.ps (a,(b,()))
def zhd (a b:LI):St:=z1k [(0,.c (.sn 3 tI a none)),(1,.c (.sn 3 tI b none))] [] []
def zfr:z09:=⟨[0,1],[],[],[],[]⟩
def zw2 (a b d:LI) (e f:Int):St:=z1k [(0,.c (.sn 3 tI a none)),(1,.c (.sn 3 tI b none)),(9,.c (.sn 3 tI d none)),(10,xi e),(11,xi f)] [] []
def zzb:z09:=⟨[0,1,9,10,11],[],[],[],[]⟩
def zj4 (a:Int):St:=z1k [(4,xi a)] [] []
def f87l3:z09:=⟨[4],[],[],[],[]⟩
def f87B:Nat→Option z09:=z1n [(0,zfr),(1000000,f87l3)]
abbrev ztp {ρ:Type} (N:Nat) (c:Code) (p:z0p) (σ:St) (K:KT ρ):Option ρ:=z1t f87G tab f87B N c p σ K
def zr3 (n:Nat):Code:=z2x 99 (z25 Try.f87) n
theorem f87t1 N a b (K:KT ρ):ztp N (zr3 2) .n (f87s0 a b) (z00 (some zfr) K) =
 z0m.Z1 N a b (fun a b=>K .nrm (zhd a b)):=by kernel_rfl
theorem f87t4 N a b (K:KT ρ):ztp N (zr3 9) .n (zhd a b) (z00 (some zzb) K) =
 z0m.Z4 N a b (fun a b c d e=>K .nrm (zw2 a b c d e)):=by kernel_rfl
theorem f87t7 N a b c d e (K:KT ρ):ztp N (zr3 37) .n (zw2 a b c d e) (z00 (some zzb) K) =
 z0m.Z7 N a b c d e (fun a b c d e=>K .nrm (zw2 a b c d e)) (fun a b=>K (.exit 0) (zhd a b)) (fun f=>K .ret (zj4 f)):=by kernel_rfl
def f87p6:z0p:=.mk none (some zzb) .n .n
abbrev f87w6 {ρ:Type} (N M:Nat) (σ:St) (K:KT ρ):Option ρ:=z2r (fun σ K=>ztp N (zr3 37) .n σ K) zzb M σ K
theorem f87t6L {ρ:Type} (N:Nat) (K:KT ρ):∀ (M:Nat) (a b c:LI) (d e:Int),f87w6 N M (zw2 a b c d e) K =
 z0m.Z6L N (fun a b=>K (.exit 0) (zhd a b)) (fun f=>K .ret (zj4 f)) M a b c d e
 | 0,_,_,_,_,_=>rfl
 | M + 1,a,b,c,d,e=>z12 (fun k=>z0m.Z7 N a b c d e k (fun a b=>K (.exit 0) (zhd a b)) (fun f=>K .ret (zj4 f))) (f87t7 N (K:=z16 (fun σ=>f87w6 N M σ K) K) ..) (fx5 fun a b c d e=>f87t6L N K M a b c d e) (by kernel_rfl)
theorem f87t6 N a b c d e (K:KT ρ):ztp N (zr3 21) f87p6 (zw2 a b c d e) (z00 (some zfr) K) =
  z0m.Z6 N a b c d e (fun a b=>K (.exit 0) (zhd a b)) (fun f=>K .ret (zj4 f)) :=
 z1d (by kernel_rfl) (f87t6L N (z00 (some zfr) K) N a b c d e) (by kernel_rfl)
def f87p5:z0p:=.mk (some zfr) none f87p6 .n
theorem f87t5 N a b c d e (K:KT ρ):ztp N (zr3 13) f87p5 (zw2 a b c d e) (z00 (some zfr) K) =
  z0m.Z5 N a b c d e (fun a b=>K .nrm (zhd a b)) (fun f=>K .ret (zj4 f)) :=
 z0n (by kernel_rfl) (f87t6 N (K:=z1j 0 (z00 (some zfr) K)) ..) (by kernel_rfl)
def f87p3:z0p:=.mk (some zzb) none .n f87p5
theorem f87t3 N a b (K:KT ρ):ztp N (zr3 5) f87p3 (zhd a b) (z00 (some zfr) K) =
  z0m.Z3 N a b (fun a b=>K .nrm (zhd a b)) (fun c=>K .ret (zj4 c)) :=
 z05 (fun k=>z0m.Z4 N a b k) (by kernel_rfl) (f87t4 N (K:=z16 (fun σ=>ztp N (zr3 13) f87p5 σ (z00 (some zfr) K)) (z00 (some zfr) K)) ..) (fx5 fun a b d e f=>f87t5 N a b d e f K) (by kernel_rfl)
theorem f87t8 N a b (K:KT ρ):ztp N (zr3 7) .n (zhd a b) (z00 (some zlz) K) =
 z0m.Z8 N a b (fun c=>K .ret (zj4 c)):=by kernel_rfl
def f87p2:z0p:=.mk (some zfr) none f87p3 .n
theorem f87t2 N a b (K:KT ρ):ztp N (zr3 3) f87p2 (zhd a b) (z00 (some zlz) K) =
  z0m.Z2 N a b (fun c=>K .ret (zj4 c)) :=
 z05 (fun k=>z0m.Z3 N a b k (fun c=>K .ret (zj4 c))) (by kernel_rfl) (f87t3 N (K:=z16 (fun σ=>ztp N (zr3 7) .n σ (z00 (some zlz) K)) (z00 (some zlz) K)) ..) (fx2 fun a b=>f87t8 N a b K) (by kernel_rfl)
def f87p0:z0p:=.mk (some zfr) none .n f87p2
theorem f87t0 N a b (K:KT ρ):ztp N (zr3 1) f87p0 (f87s0 a b) (z00 (some zlz) K) =
  z0m.Z0 N a b (fun c=>K .ret (zj4 c)) :=
 z05 (fun k=>z0m.Z1 N a b k) (by kernel_rfl) (f87t1 N (K:=z16 (fun σ=>ztp N (zr3 3) f87p2 σ (z00 (some zlz) K)) (z00 (some zlz) K)) ..) (fx2 fun a b=>f87t2 N a b K) (by kernel_rfl)
theorem f87m (N:Nat) (a b:LI):ztp N (zr3 1) f87p0 (f87s0 a b) (z00 (some zlz) (z3o tab zoc Try.f87.results.toList)) = z0m.Z0 N a b (fun c=>some ((),(c,()))) :=
 (f87t0 N a b (z3o tab zoc Try.f87.results.toList)).trans (by kernel_rfl)
theorem f87ok (h:z0m.Spec):z0r Try.prog 87 e87 :=
 z0k (sig:=zoc) (c:=(zr3 1)) (pl:=f87p0) (je:=(some zlz)) (B:=f87B) Try.func87 (by kernel_rfl) (by kernel_rfl) (by kernel_rfl) z34 f87GOk (by kernel_rfl) (by kernel_rfl) (by kernel_rfl) (by kernel_rfl) fun X hb hp=>by
  obtain ⟨a,b,_⟩:=X
  obtain ⟨N,h⟩:=h a b hb.1 hb.2.1
  exact ⟨N,(f87m N a b).trans (h N (Nat.le_refl N))⟩
theorem e87ok:z0r Try.prog 87 e87:=f87ok z0m.ok
end Go.Fw
namespace Go.Fw
variable {ρ:Type}
open Go.Proofs
def zoz:Sig:=⟨[⟨.pair (.int .i64) (.pair (.int .i64) (.sl 3 (.int .i64))),true,false⟩],[⟨.pair (.int .i64) (.pair (.int .i64) (.sl 3 (.int .i64))),true,false⟩,⟨.bool,false,false⟩]⟩
def e43:z2v:=⟨zoz,none,fun X=>((),((z08.g X.1).1,((z08.g X.1).2,())))⟩
def f43G:Gm:=z4p (z4p (z4p (z4p z24 31 e31) 47 e47) 86 e86) 87 e87
theorem f43GOk:GOk Try.prog f43G:=((((GOk.nil).add y6a (by kernel_rfl)).add e47ok (by kernel_rfl)).add e86ok (by kernel_rfl)).add e87ok (by kernel_rfl)
def zcm:z09:=⟨[],[],[],[],[]⟩
def f43s0 (a:MT):St:=z2j zoz.ps (a,())
def zwc (a b:Int) (c:LI) (d e:Int):St:=z1k [(1,xb 1),(2,xb 2)] [(1,(30,[yi a,yi b,.sn 3 tI c none])),(2,(30,[yi d,yi e,.nil]))] []
def f43l1:z09:=⟨[1,2],[1,2],[],[],[]⟩
def f43s2 (a b:Int) (c:LI) (d e f g:Int) (h:LI):St:=z1k [(1,xb 1),(2,xb 2),(4,xb 4)] [(1,(30,[yi a,yi b,.sn 3 tI c none])),(2,(30,[yi d,yi e,.nil])),(4,(30,[yi f,yi g,.sn 3 tI h none]))] []
def f43l2:z09:=⟨[1,2,4],[1,2,4],[],[],[]⟩
def f43s3 (a:LL) (b c d e:Int) (f:LI) (g h i j:Int) (l:LI):St:=z1k [(1,xb 1),(2,xb 2),(4,xb 4),(23,xo 1001472),(24,xi b),(25,xi c)] [(1,(30,[yi d,yi e,.sn 3 tI f none])),(2,(30,[yi g,yi h,.nil])),(4,(30,[yi i,yi j,.sn 3 tI l none]))] [(1001472,(⟨22,.sl 3 tI,a,true,false⟩:Row))]
def f43l3:z09:=⟨[1,2,4,23,24,25],[1,2,4],[],[],[(⟨false,23,0⟩,1001472)]⟩
def f43s4 (a:LL) (b:LI) (c d e f:Int) (g:LI) (h i j l:Int):St:=z1k [(1,xb 1),(2,xb 2),(4,xb 4),(23,xo 1001472),(24,xi c),(25,xi d)] [(1,(30,[yi e,yi f,.sn 3 tI g none])),(2,(30,[yi h,yi i,.nil])),(4,(30,[yi j,yi l,.own 20000258]))] [(1001472,(⟨22,.sl 3 tI,a,true,false⟩:Row)),(20000258,(⟨3,.int .i64,b,true,false⟩:Row))]
def f43l4:z09:=⟨[1,2,4,23,24,25],[1,2,4],[],[],[(⟨false,23,0⟩,1001472),(⟨true,4,2⟩,20000258)]⟩
def zm6 (a:LI) (b c d e:Int):St:=z1k [(2,xb 2),(4,xb 4)] [(2,(30,[yi b,yi c,.nil])),(4,(30,[yi d,yi e,.own 20000258]))] [(20000258,(⟨3,.int .i64,a,true,false⟩:Row))]
def zfz:z09:=⟨[2,4],[2,4],[],[],[(⟨true,4,2⟩,20000258)]⟩
def zr6 (a:LI) (b:Bool) (c d:Int):St:=z1k [(2,xb 2),(3,xB b)] [(2,(30,[yi c,yi d,.own 20000130]))] [(20000130,(⟨3,.int .i64,a,true,false⟩:Row))]
def f43l6:z09:=⟨[2,3],[2],[⟨⟨true,2,2⟩,30000000,3,.int .i64,true⟩],[],[(⟨true,2,2⟩,20000130)]⟩
def f43B:Nat→Option z09:=z1n [(0,zfz),(1000000,f43l6)]
abbrev zjb {ρ:Type} (N:Nat) (c:Code) (p:z0p) (σ:St) (K:KT ρ):Option ρ:=z1t f43G tab f43B N c p σ K
def zit (n:Nat):Code:=z2x 99 (z25 Try.f43) n
theorem f43t1 N a (K:KT ρ):zjb N (zit 2) .n (f43s0 a) (z00 (some f43l1) K) =
 z08.Z1 N a (fun b c d e f=>K .nrm (zwc b c d e f)):=by kernel_rfl
theorem f43t3 N c d e a b (K:KT ρ):zjb N (zit 5) .n (zwc c d e a b) (z00 (some f43l1) K) =
 z08.Z3 N c d e a b (fun c d e a b=>K .nrm (zwc c d e a b)) (fun f g a b=>K .ret (zr6 f g a b)):=by kernel_rfl
theorem f43t5 N a b c d e (K:KT ρ):zjb N (zit 11) .n (zwc a b c d e) (z00 (some f43l2) K) =
 z08.Z5 N a b c d e (fun a b c d e f g h=>K .nrm (f43s2 a b c d e f g h)):=by kernel_rfl
theorem f43t8 N a b c d e f g h (K:KT ρ):zjb N (zit 39) .n (f43s2 a b c d e f g h) (z00 (some f43l3) K) =
 z08.Z8 N a b c d e f g h (fun i j l a b c d e f g h=>K .nrm (f43s3 i j l a b c d e f g h)):=by kernel_rfl
theorem f43t11 N f a g h i j l b c d e (K:KT ρ):zjb N (zit 151) .n (f43s4 f a g h i j l b c d e) (z00 (some f43l4) K) =
 z08.Z11 N f a g h i j l b c d e (fun f a g h i j l b c d e=>K .nrm (f43s4 f a g h i j l b c d e)) (fun a b c d e=>K (.exit 0) (zm6 a b c d e)):=by kernel_rfl
theorem f43t12 N f g h i j l a b c d e (K:KT ρ):zjb N (zit 151) .n (f43s3 f g h i j l a b c d e) (z00 (some f43l4) K) =
 z08.Z12 N f g h i j l a b c d e (fun f e g h i j l a b c d=>K .nrm (f43s4 f e g h i j l a b c d)) (fun e a b c d=>K (.exit 0) (zm6 e a b c d)):=by kernel_rfl
def f43p10:z0p:=.mk (some f43l3) (some f43l4) .n .n
abbrev y1t {ρ:Type} (N M:Nat) (σ:St) (K:KT ρ):Option ρ:=z2r (fun σ K=>zjb N (zit 151) .n σ K) f43l4 M σ K
theorem y1u {ρ:Type} (N:Nat) (K:KT ρ):∀ (M:Nat) (f:LL) (a:LI) (g h i j:Int) (l:LI) (b c d e:Int),y1t N M (f43s4 f a g h i j l b c d e) K =
 z08.Z10L N (fun a b c d e=>K (.exit 0) (zm6 a b c d e)) M f a g h i j l b c d e
 | 0,_,_,_,_,_,_,_,_,_,_,_=>rfl
 | M + 1,f,a,g,h,i,j,l,b,c,d,e=>z12 (fun k=>z08.Z11 N f a g h i j l b c d e k (fun a b c d e=>K (.exit 0) (zm6 a b c d e))) (f43t11 N (K:=z16 (fun σ=>y1t N M σ K) K) ..) (zk5 fun f a g h i j l b c d e=>y1u N K M f a g h i j l b c d e) (by kernel_rfl)
theorem f43t10 N f g h i j l a b c d e (K:KT ρ):zjb N (zit 87) f43p10 (f43s3 f g h i j l a b c d e) (z00 (some zfz) K) =
  z08.Z10 N f g h i j l a b c d e (fun e a b c d=>K (.exit 0) (zm6 e a b c d)) :=
 viaPeelS (cl1:=f43l3) (fun k=>z08.Z12 N f g h i j l a b c d e k (fun e a b c d=>K (.exit 0) (zm6 e a b c d))) (by kernel_rfl) (f43t12 N f g h i j l a b c d e (z16 (fun σ=>y1t N N σ (z00 (some zfz) K)) (z00 (some zfz) K))) (zk5 fun f e g h i j l a b c d=>y1u N (z00 (some zfz) K) N f e g h i j l a b c d) (by kernel_rfl)
def f43p9:z0p:=.mk (some zfz) none f43p10 .n
theorem f43t9 N f g h i j l a b c d e (K:KT ρ):zjb N (zit 55) f43p9 (f43s3 f g h i j l a b c d e) (z00 (some zfz) K) =
  z08.Z9 N f g h i j l a b c d e (fun e a b c d=>K .nrm (zm6 e a b c d)) :=
 z0n (by kernel_rfl) (f43t10 N (K:=z1j 0 (z00 (some zfz) K)) ..) (by kernel_rfl)
def f43p7:z0p:=.mk (some f43l3) none .n f43p9
theorem f43t7 N f g h a b c d e (K:KT ρ):zjb N (zit 23) f43p7 (f43s2 f g h a b c d e) (z00 (some zfz) K) =
  z08.Z7 N f g h a b c d e (fun e a b c d=>K .nrm (zm6 e a b c d)) :=
 z05 (fun k=>z08.Z8 N f g h a b c d e k) (by kernel_rfl) (f43t8 N (K:=z16 (fun σ=>zjb N (zit 55) f43p9 σ (z00 (some zfz) K)) (z00 (some zfz) K)) ..) (zk5 fun i j l f g h a b c d e=>f43t9 N i j l f g h a b c d e K) (by kernel_rfl)
theorem f43t13 N c a b d e (K:KT ρ):zjb N (zit 31) .n (zm6 c a b d e) (z00 (some zcm) K) =
 z08.Z13 N c a b d e (fun f g a b=>K .ret (zr6 f g a b)):=by kernel_rfl
def f43p6:z0p:=.mk (some zfz) none f43p7 .n
theorem f43t6 N f g h a b c d e (K:KT ρ):zjb N (zit 15) f43p6 (f43s2 f g h a b c d e) (z00 (some zcm) K) =
  z08.Z6 N f g h a b c d e (fun i j a b=>K .ret (zr6 i j a b)) :=
 z05 (fun k=>z08.Z7 N f g h a b c d e k) (by kernel_rfl) (f43t7 N (K:=z16 (fun σ=>zjb N (zit 31) .n σ (z00 (some zcm) K)) (z00 (some zcm) K)) ..) (fx5 fun e a b c d=>f43t13 N e a b c d K) (by kernel_rfl)
def f43p4:z0p:=.mk (some f43l2) none .n f43p6
theorem f43t4 N c d e a b (K:KT ρ):zjb N (zit 7) f43p4 (zwc c d e a b) (z00 (some zcm) K) =
  z08.Z4 N c d e a b (fun f g a b=>K .ret (zr6 f g a b)) :=
 z05 (fun k=>z08.Z5 N c d e a b k) (by kernel_rfl) (f43t5 N (K:=z16 (fun σ=>zjb N (zit 15) f43p6 σ (z00 (some zcm) K)) (z00 (some zcm) K)) ..) (fx8 fun c d e a b h i j=>f43t6 N c d e a b h i j K) (by kernel_rfl)
def f43p2:z0p:=.mk (some f43l1) none .n f43p4
theorem f43t2 N c d e a b (K:KT ρ):zjb N (zit 3) f43p2 (zwc c d e a b) (z00 (some zcm) K) =
  z08.Z2 N c d e a b (fun f g a b=>K .ret (zr6 f g a b)) :=
 z05 (fun k=>z08.Z3 N c d e a b k (fun f g a b=>K .ret (zr6 f g a b))) (by kernel_rfl) (f43t3 N (K:=z16 (fun σ=>zjb N (zit 7) f43p4 σ (z00 (some zcm) K)) (z00 (some zcm) K)) ..) (fx5 fun c d e a b=>f43t4 N c d e a b K) (by kernel_rfl)
def f43p0:z0p:=.mk (some f43l1) none .n f43p2
theorem f43t0 N a (K:KT ρ):zjb N (zit 1) f43p0 (f43s0 a) (z00 (some zcm) K) =
  z08.Z0 N a (fun d e b c=>K .ret (zr6 d e b c)) :=
 z05 (fun k=>z08.Z1 N a k) (by kernel_rfl) (f43t1 N (K:=z16 (fun σ=>zjb N (zit 3) f43p2 σ (z00 (some zcm) K)) (z00 (some zcm) K)) ..) (fx5 fun f g h b c=>f43t2 N f g h b c K) (by kernel_rfl)
theorem f43m (N:Nat) (a:MT):zjb N (zit 1) f43p0 (f43s0 a) (z00 (some zcm) (z3o tab zoz Try.f43.results.toList)) = z08.Z0 N a (fun b c d e=>some ((),((d,(e,b)),(c,())))) :=
 (f43t0 N a (z3o tab zoz Try.f43.results.toList)).trans (by kernel_rfl)
theorem f43ok (h:z08.Spec):z0r Try.prog 43 e43 :=
 z0k (sig:=zoz) (c:=(zit 1)) (pl:=f43p0) (je:=(some zcm)) (B:=f43B) Try.func43 (by kernel_rfl) (by kernel_rfl) (by kernel_rfl) z34 f43GOk (by kernel_rfl) (by kernel_rfl) (by kernel_rfl) (by kernel_rfl) fun X hb hp=>by
  obtain ⟨a,_⟩:=X
  obtain ⟨N,h⟩:=h a hb.1
  exact ⟨N,(f43m N a).trans (h N (Nat.le_refl N))⟩
theorem e43ok:z0r Try.prog 43 e43:=f43ok z08.ok
end Go.Fw
namespace Go.Fw
variable {ρ:Type}
open Go.Proofs
def zi2:Sig:=⟨[⟨.sl 3 (.int .i64),false,false⟩,⟨.sl 3 (.int .i64),false,false⟩],[⟨.bool,false,false⟩]⟩
def e115:z2v:=⟨zi2,none,fun X=>((),((z0o.g X.1 X.2.1),()))⟩
def f115G:Gm:=z24
theorem f115GOk:GOk Try.prog f115G:=GOk.nil
def z9s:z09:=⟨[],[],[],[],[]⟩
def y4v (a b:LI):St:=z2j zi2.ps (a,(b,()))
def zi4 (a b:LI):St:=z1k [(0,.c (.sn 3 tI a none)),(1,.c (.sn 3 tI b none))] [] []
def zuc:z09:=⟨[0,1],[],[],[],[]⟩
def zkl (a b:LI) (d e:Int):St:=z1k [(0,.c (.sn 3 tI a none)),(1,.c (.sn 3 tI b none)),(12,xi d),(13,xi e)] [] []
def zpm:z09:=⟨[0,1,12,13],[],[],[],[]⟩
def zi3 :St:=z1k [] [] []
def zbt:z09:=⟨[],[],[],[],[]⟩
def z8p (a:Bool):St:=z1k [(4,xB a)] [] []
def f115l4:z09:=⟨[4],[],[],[],[]⟩
def f115B:Nat→Option z09:=z1n [(0,zbt),(1000000,f115l4)]
abbrev zai {ρ:Type} (N:Nat) (c:Code) (p:z0p) (σ:St) (K:KT ρ):Option ρ:=z1t f115G tab f115B N c p σ K
def za2 (n:Nat):Code:=z2x 99 (z25 Try.f115) n
theorem f115t1 N a b (K:KT ρ):zai N (za2 2) .n (y4v a b) (z00 (some zuc) K) =
 z0o.Z1 N a b (fun a b=>K .nrm (zi4 a b)):=by kernel_rfl
theorem f115t3 N a b (K:KT ρ):zai N (za2 5) .n (zi4 a b) (z00 (some zuc) K) =
 z0o.Z3 N a b (fun a b=>K .nrm (zi4 a b)) (fun c=>K .ret (z8p c)):=by kernel_rfl
theorem f115t6 N a b (K:KT ρ):zai N (za2 19) .n (zi4 a b) (z00 (some zpm) K) =
 z0o.Z6 N a b (fun a b c d=>K .nrm (zkl a b c d)):=by kernel_rfl
theorem f115t9 N a b c d (K:KT ρ):zai N (za2 75) .n (zkl a b c d) (z00 (some zpm) K) =
 z0o.Z9 N a b c d (fun a b c d=>K .nrm (zkl a b c d)) (K (.exit 0) zi3) (fun e=>K .ret (z8p e)):=by kernel_rfl
def f115p8:z0p:=.mk none (some zpm) .n .n
abbrev f115w8 {ρ:Type} (N M:Nat) (σ:St) (K:KT ρ):Option ρ:=z2r (fun σ K=>zai N (za2 75) .n σ K) zpm M σ K
theorem y4u {ρ:Type} (N:Nat) (K:KT ρ):∀ (M:Nat) (a b:LI) (c d:Int),f115w8 N M (zkl a b c d) K =
 z0o.Z8L N (K (.exit 0) zi3) (fun e=>K .ret (z8p e)) M a b c d
 | 0,_,_,_,_=>rfl
 | M + 1,a,b,c,d=>z12 (fun k=>z0o.Z9 N a b c d k (K (.exit 0) zi3) (fun e=>K .ret (z8p e))) (f115t9 N (K:=z16 (fun σ=>f115w8 N M σ K) K) ..) (fx4 fun a b c d=>y4u N K M a b c d) (by kernel_rfl)
theorem f115t8 N a b c d (K:KT ρ):zai N (za2 43) f115p8 (zkl a b c d) (z00 (some zbt) K) =
  z0o.Z8 N a b c d (K (.exit 0) zi3) (fun e=>K .ret (z8p e)) :=
 z1d (by kernel_rfl) (y4u N (z00 (some zbt) K) N a b c d) (by kernel_rfl)
def y4w:z0p:=.mk (some zbt) none f115p8 .n
theorem f115t7 N a b c d (K:KT ρ):zai N (za2 27) y4w (zkl a b c d) (z00 (some zbt) K) =
  z0o.Z7 N a b c d (K .nrm zi3) (fun e=>K .ret (z8p e)) :=
 z0n (by kernel_rfl) (f115t8 N (K:=z1j 0 (z00 (some zbt) K)) ..) (by kernel_rfl)
def f115p5:z0p:=.mk (some zpm) none .n y4w
theorem f115t5 N a b (K:KT ρ):zai N (za2 11) f115p5 (zi4 a b) (z00 (some zbt) K) =
  z0o.Z5 N a b (K .nrm zi3) (fun c=>K .ret (z8p c)) :=
 z05 (fun k=>z0o.Z6 N a b k) (by kernel_rfl) (f115t6 N (K:=z16 (fun σ=>zai N (za2 27) y4w σ (z00 (some zbt) K)) (z00 (some zbt) K)) ..) (fx4 fun a b d e=>f115t7 N a b d e K) (by kernel_rfl)
theorem f115t10 N  (K:KT ρ):zai N (za2 15) .n zi3 (z00 (some z9s) K) =
 z0o.Z10 N (fun a=>K .ret (z8p a)):=by kernel_rfl
def y4x:z0p:=.mk (some zbt) none f115p5 .n
theorem f115t4 N a b (K:KT ρ):zai N (za2 7) y4x (zi4 a b) (z00 (some z9s) K) =
  z0o.Z4 N a b (fun c=>K .ret (z8p c)) :=
 z05 (fun k=>z0o.Z5 N a b k (fun c=>K .ret (z8p c))) (by kernel_rfl) (f115t5 N (K:=z16 (fun σ=>zai N (za2 15) .n σ (z00 (some z9s) K)) (z00 (some z9s) K)) ..) (f115t10 N K) (by kernel_rfl)
def y4y:z0p:=.mk (some zuc) none .n y4x
theorem f115t2 N a b (K:KT ρ):zai N (za2 3) y4y (zi4 a b) (z00 (some z9s) K) =
  z0o.Z2 N a b (fun c=>K .ret (z8p c)) :=
 z05 (fun k=>z0o.Z3 N a b k (fun c=>K .ret (z8p c))) (by kernel_rfl) (f115t3 N (K:=z16 (fun σ=>zai N (za2 7) y4x σ (z00 (some z9s) K)) (z00 (some z9s) K)) ..) (fx2 fun a b=>f115t4 N a b K) (by kernel_rfl)
def y4z:z0p:=.mk (some zuc) none .n y4y
theorem f115t0 N a b (K:KT ρ):zai N (za2 1) y4z (y4v a b) (z00 (some z9s) K) =
  z0o.Z0 N a b (fun c=>K .ret (z8p c)) :=
 z05 (fun k=>z0o.Z1 N a b k) (by kernel_rfl) (f115t1 N (K:=z16 (fun σ=>zai N (za2 3) y4y σ (z00 (some z9s) K)) (z00 (some z9s) K)) ..) (fx2 fun a b=>f115t2 N a b K) (by kernel_rfl)
theorem f115m (N:Nat) (a b:LI):zai N (za2 1) y4z (y4v a b) (z00 (some z9s) (z3o tab zi2 Try.f115.results.toList)) = z0o.Z0 N a b (fun c=>some ((),(c,()))) :=
 (f115t0 N a b (z3o tab zi2 Try.f115.results.toList)).trans (by kernel_rfl)
theorem f115ok (h:z0o.Spec):z0r Try.prog 115 e115 :=
 z0k (sig:=zi2) (c:=(za2 1)) (pl:=y4z) (je:=(some z9s)) (B:=f115B) Try.func115 (by kernel_rfl) (by kernel_rfl) (by kernel_rfl) z34 f115GOk (by kernel_rfl) (by kernel_rfl) (by kernel_rfl) (by kernel_rfl) fun X hb hp=>by
  obtain ⟨a,b,_⟩:=X
  obtain ⟨N,h⟩:=h a b hb.1 hb.2.1
  exact ⟨N,(f115m N a b).trans (h N (Nat.le_refl N))⟩
theorem e115ok:z0r Try.prog 115 e115:=f115ok z0o.ok
end Go.Fw
namespace Go.Fw
variable {ρ:Type}
open Go.Proofs
def zob:Sig:=⟨[⟨.pair (.int .i64) (.pair (.int .i64) (.sl 3 (.int .i64))),true,false⟩,⟨.pair (.int .i64) (.pair (.int .i64) (.sl 3 (.int .i64))),true,false⟩],[⟨.bool,false,false⟩]⟩
def e89:z2v:=⟨zob,none,fun X=>((),((z2p.g X.1 X.2.1),()))⟩
def f89G:Gm:=z4p z24 115 e115
theorem f89GOk:GOk Try.prog f89G:=(GOk.nil).add e115ok (by kernel_rfl)
def f89lE:z09:=⟨[],[],[],[],[]⟩
def f89s0 (a b:MT):St:=z2j zob.ps (a,(b,()))
def f89s1 (a:Bool):St:=z1k [(4,xB a)] [] []
def f89l1:z09:=⟨[4],[],[],[],[]⟩
def f89B:Nat→Option z09:=z1n [(1000000,f89l1)]
abbrev f89i {ρ:Type} (N:Nat) (c:Code) (p:z0p) (σ:St) (K:KT ρ):Option ρ:=z1t f89G tab f89B N c p σ K
def f89c (n:Nat):Code:=z2x 99 (z25 Try.f89) n
theorem f89t0 N a b (K:KT ρ):f89i N (f89c 1) .n (f89s0 a b) (z00 (some f89lE) K) =
 z2p.Z0 N a b (fun c=>K .ret (f89s1 c)):=by kernel_rfl
theorem f89m (N:Nat) (a b:MT):f89i N (f89c 1) .n (f89s0 a b) (z00 (some f89lE) (z3o tab zob Try.f89.results.toList)) = z2p.Z0 N a b (fun c=>some ((),(c,()))) :=
 (f89t0 N a b (z3o tab zob Try.f89.results.toList)).trans (by kernel_rfl)
theorem f89ok (h:z2p.Spec):z0r Try.prog 89 e89 :=
 z0k (sig:=zob) (c:=(f89c 1)) (pl:=.n) (je:=(some f89lE)) (B:=f89B) Try.func89 (by kernel_rfl) (by kernel_rfl) (by kernel_rfl) z34 f89GOk (by kernel_rfl) (by kernel_rfl) (by kernel_rfl) (by kernel_rfl) fun X hb hp=>by
  obtain ⟨a,b,_⟩:=X
  obtain ⟨N,h⟩:=h a b hb.1 hb.2.1
  exact ⟨N,(f89m N a b).trans (h N (Nat.le_refl N))⟩
theorem e89ok:z0r Try.prog 89 e89:=f89ok z2p.ok
end Go.Fw
namespace Go.Fw
variable {ρ:Type}
open Go.Proofs
def zoy:Sig:=⟨[⟨.pair (.int .i64) (.pair (.int .i64) (.sl 3 (.int .i64))),true,false⟩,⟨.pair (.int .i64) (.pair (.int .i64) (.sl 3 (.int .i64))),true,false⟩],[⟨.bool,false,false⟩]⟩
def e46:z2v:=⟨zoy,none,fun X=>((),((z38.g X.1 X.2.1),()))⟩
def f46G:Gm:=z4p (z4p z24 43 e43) 89 e89
theorem f46GOk:GOk Try.prog f46G:=((GOk.nil).add e43ok (by kernel_rfl)).add e89ok (by kernel_rfl)
def f46lE:z09:=⟨[],[],[],[],[]⟩
def f46s0 (a b:MT):St:=z2j zoy.ps (a,(b,()))
def f46s1 (a:Bool):St:=z1k [(4,xB a)] [] []
def f46l1:z09:=⟨[4],[],[],[],[]⟩
def f46B:Nat→Option z09:=z1n [(1000000,f46l1)]
abbrev f46i {ρ:Type} (N:Nat) (c:Code) (p:z0p) (σ:St) (K:KT ρ):Option ρ:=z1t f46G tab f46B N c p σ K
def f46c (n:Nat):Code:=z2x 99 (z25 Try.f46) n
theorem f46t0 N a b (K:KT ρ):f46i N (f46c 1) .n (f46s0 a b) (z00 (some f46lE) K) =
 z38.Z0 N a b (fun c=>K .ret (f46s1 c)):=by kernel_rfl
theorem f46m (N:Nat) (a b:MT):f46i N (f46c 1) .n (f46s0 a b) (z00 (some f46lE) (z3o tab zoy Try.f46.results.toList)) = z38.Z0 N a b (fun c=>some ((),(c,()))) :=
 (f46t0 N a b (z3o tab zoy Try.f46.results.toList)).trans (by kernel_rfl)
theorem f46ok (h:z38.Spec):z0r Try.prog 46 e46 :=
 z0k (sig:=zoy) (c:=(f46c 1)) (pl:=.n) (je:=(some f46lE)) (B:=f46B) Try.func46 (by kernel_rfl) (by kernel_rfl) (by kernel_rfl) z34 f46GOk (by kernel_rfl) (by kernel_rfl) (by kernel_rfl) (by kernel_rfl) fun X hb hp=>by
  obtain ⟨a,b,_⟩:=X
  obtain ⟨N,h⟩:=h a b hb.1 hb.2.1
  exact ⟨N,(f46m N a b).trans (h N (Nat.le_refl N))⟩
theorem e46ok:z0r Try.prog 46 e46:=f46ok z38.ok
end Go.Fw
