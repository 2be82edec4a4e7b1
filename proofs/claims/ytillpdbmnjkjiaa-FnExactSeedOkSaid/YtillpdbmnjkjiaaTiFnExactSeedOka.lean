/- The ties: the program's text comes to the plain functions. Nothing is assumed. -/
import Derived.Test.YtillpdbmnjkjiaaFwc
import Derived.Test.YtillpdbmnjkjiaaFwd
import Derived.Test.YtillpdbmnjkjiaaProg
import Derived.Test.YtillpdbmnjkjiaaPuFnExactSeedOka
import Derived.Test.YtillpdbmnjkjiaaFza
import Derived.Test.YtillpdbmnjkjiaaChecked
import Derived.Test.YtillpdbmnjkjiaaPuFnExactSeedOkb
noncomputable section
set_option linter.defProp false
set_option linter.unusedSectionVars false
set_option linter.unusedVariables false
set_option linter.unusedSimpArgs false
set_option maxRecDepth 100000
namespace Go.Fw
open Go.Proofs
def aZ:aN:=lY [
 (2,⟨false,.int .i64,[.int .i64 0],[],none,8⟩),
 (3,⟨false,.int .i64,[.int .i64 0],[],none,8⟩),
 (4,⟨false,.bool,[.bool false],[],none,1⟩),
 (5,⟨false,.int .u8,[.int .u8 0],[],none,1⟩),
 (6,⟨false,.int .u8,[.int .u8 0],[],none,1⟩),
 (7,⟨true,.pair (.int .i64) (.pair (.int .i64) (.pair (.bool) (.int .u8))),[.int .i64 0,.int .i64 0,.bool false,.int .u8 0],[(0,1,false),(1,1,false),(2,1,false),(3,1,false)],none,24⟩),
 (8,⟨true,.pair (.int .i64) (.pair (.int .i64) (.pair (.bool) (.int .u8))),[.int .i64 0,.int .i64 0,.bool false,.int .u8 0],[(0,1,false),(1,1,false),(2,1,false),(3,1,false)],none,24⟩),
 (9,⟨false,.str,[.str ByteArray.empty],[],none,16⟩),
 (10,⟨false,.str,[.str ByteArray.empty],[],none,16⟩),
 (11,⟨false,.str,[.str ByteArray.empty],[],none,16⟩),
 (12,⟨false,.int .u64,[.int .u64 0],[],none,8⟩),
 (13,⟨true,.pair (.str) (.int .u64),[.str ByteArray.empty,.int .u64 0],[(0,1,false),(1,1,false)],none,24⟩),
 (14,⟨true,.pair (.str) (.int .u64),[.str ByteArray.empty,.int .u64 0],[(0,1,false),(1,1,false)],none,24⟩),
 (20,⟨false,.err,[.err false],[],none,16⟩),
 (21,⟨false,.int .i32,[.int .i32 0],[],none,4⟩),
 (22,⟨false,.sl 3 (.int .i64),[.nil],[],some 3,24⟩),
 (23,⟨true,.pair (.int .i64) (.pair (.int .i64) (.sl 3 (.int .i64))),[.int .i64 0,.int .i64 0,.nil],[(0,1,false),(1,1,false),(2,1,false)],none,40⟩),
 (24,⟨true,.pair (.int .i64) (.pair (.int .i64) (.sl 3 (.int .i64))),[.int .i64 0,.int .i64 0,.nil],[(0,1,false),(1,1,false),(2,1,false)],none,40⟩),
 (25,⟨false,.sl 103 (.pair (.int .i64) (.sl 135 (.pair (.sl 3 (.int .i64)) (.int .i64)))),[.nil],[],some 103,24⟩),
 (26,⟨true,.pair (.pair (.int .i64) (.pair (.int .i64) (.sl 3 (.int .i64)))) (.sl 103 (.pair (.int .i64) (.sl 135 (.pair (.sl 3 (.int .i64)) (.int .i64))))),[.int .i64 0,.int .i64 0,.nil,.nil],[(0,3,true),(3,1,false)],none,64⟩),
 (27,⟨true,.pair (.pair (.int .i64) (.pair (.int .i64) (.sl 3 (.int .i64)))) (.sl 103 (.pair (.int .i64) (.sl 135 (.pair (.sl 3 (.int .i64)) (.int .i64))))),[.int .i64 0,.int .i64 0,.nil,.nil],[(0,3,true),(3,1,false)],none,64⟩),
 (30,⟨true,.pair (.int .i64) (.pair (.int .i64) (.sl 3 (.int .i64))),[.int .i64 0,.int .i64 0,.nil],[(0,1,false),(1,1,false),(2,1,false)],none,40⟩),
 (31,⟨false,.sl 71 (.pair (.int .i64) (.sl 107 (.pair (.sl 3 (.int .i64)) (.int .i64)))),[.nil],[],some 71,24⟩),
 (32,⟨true,.pair (.pair (.int .i64) (.pair (.int .i64) (.sl 3 (.int .i64)))) (.sl 71 (.pair (.int .i64) (.sl 107 (.pair (.sl 3 (.int .i64)) (.int .i64))))),[.int .i64 0,.int .i64 0,.nil,.nil],[(0,3,true),(3,1,false)],none,64⟩),
 (33,⟨true,.pair (.pair (.int .i64) (.pair (.int .i64) (.sl 3 (.int .i64)))) (.sl 71 (.pair (.int .i64) (.sl 107 (.pair (.sl 3 (.int .i64)) (.int .i64))))),[.int .i64 0,.int .i64 0,.nil,.nil],[(0,3,true),(3,1,false)],none,64⟩),
 (38,⟨false,.sl 22 (.sl 3 (.int .i64)),[.nil],[],some 22,24⟩),
 (47,⟨false,.sl 5 (.int .u8),[.nil],[],some 5,24⟩),
 (69,⟨false,.sl 107 (.pair (.sl 3 (.int .i64)) (.int .i64)),[.nil],[],some 107,24⟩),
 (70,⟨true,.pair (.int .i64) (.sl 107 (.pair (.sl 3 (.int .i64)) (.int .i64))),[.int .i64 0,.nil],[(0,1,false),(1,1,false)],none,32⟩),
 (71,⟨true,.pair (.int .i64) (.sl 107 (.pair (.sl 3 (.int .i64)) (.int .i64))),[.int .i64 0,.nil],[(0,1,false),(1,1,false)],none,32⟩),
 (77,⟨true,.pair (.sl 22 (.sl 3 (.int .i64))) (.bool),[.nil,.bool false],[(0,1,false),(1,1,false)],none,32⟩),
 (78,⟨true,.pair (.sl 22 (.sl 3 (.int .i64))) (.bool),[.nil,.bool false],[(0,1,false),(1,1,false)],none,32⟩),
 (88,⟨false,.sl 30 (.pair (.int .i64) (.pair (.int .i64) (.sl 3 (.int .i64)))),[.nil],[],some 30,24⟩),
 (95,⟨false,.pair (.int .i64) (.sl 0 .bool),[.undef],[],none,8⟩),
 (96,⟨false,.sl 4 (.bool),[.nil],[],some 4,24⟩),
 (101,⟨false,.sl 135 (.pair (.sl 3 (.int .i64)) (.int .i64)),[.nil],[],some 135,24⟩),
 (102,⟨true,.pair (.int .i64) (.sl 135 (.pair (.sl 3 (.int .i64)) (.int .i64))),[.int .i64 0,.nil],[(0,1,false),(1,1,false)],none,32⟩),
 (103,⟨true,.pair (.int .i64) (.sl 135 (.pair (.sl 3 (.int .i64)) (.int .i64))),[.int .i64 0,.nil],[(0,1,false),(1,1,false)],none,32⟩),
 (106,⟨true,.pair (.sl 3 (.int .i64)) (.int .i64),[.nil,.int .i64 0],[(0,1,false),(1,1,false)],none,32⟩),
 (107,⟨true,.pair (.sl 3 (.int .i64)) (.int .i64),[.nil,.int .i64 0],[(0,1,false),(1,1,false)],none,32⟩),
 (112,⟨true,.pair (.sl 5 (.int .u8)) (.pair (.int .i64) (.int .i64)),[.nil,.int .i64 0,.int .i64 0],[(0,1,false),(1,1,false),(2,1,false)],none,40⟩),
 (113,⟨true,.pair (.sl 5 (.int .u8)) (.pair (.int .i64) (.int .i64)),[.nil,.int .i64 0,.int .i64 0],[(0,1,false),(1,1,false),(2,1,false)],none,40⟩),
 (131,⟨false,.int .u64,[.int .u64 0],[],none,8⟩),
 (135,⟨true,.pair (.sl 3 (.int .i64)) (.int .i64),[.nil,.int .i64 0],[(0,1,false),(1,1,false)],none,32⟩),
 (139,⟨false,.sl 9 (.str),[.nil],[],some 9,24⟩),
 (148,⟨false,.int .u32,[.int .u32 0],[],none,4⟩),
 (149,⟨false,.int .u8,[.int .u8 0],[],none,1⟩),
 (150,⟨false,.int .u8,[.int .u8 0],[],none,1⟩),
 (153,⟨false,.int .i32,[.int .i32 0],[],none,4⟩),
 (154,⟨false,.int .i32,[.int .i32 0],[],none,4⟩)]
def a8:aK Try.prog aZ:=aK.of (by kernel_rfl)
instance:Inv Try.prog:=Inv.triv _
end Go.Fw
namespace Go.Fw
variable {J : Type}
open Go.Proofs
def vO:aR:=⟨[⟨.sl 3 (.int .i64),false,false⟩,⟨.int .i64,false,false⟩],[⟨.int .i64,false,false⟩]⟩
def nI:aH:=⟨vO,none,λX=>((),((ce.g X.1 X.2.1),()))⟩
def vR:Gm:=aY
def B6:an Try.prog vR:=an.nil
def B7:aa:=⟨[],[],[],[],[]⟩
def B8(a:LI)(b:Int):St:=aU vO.ps (a,(b,()))
def B9(a:Int):St:=am [(4,xi a)] [] []
def Ca:aa:=⟨[4],[],[],[],[]⟩
def Cb:Nat->Option aa:=aw [(1000000,Ca)]
abbrev Cc{J:Type}(N n:Nat)(U:St)(l:aa)(K:KT J):Option J:=ah vR aZ Cb N (aT 99 (a6 Try.f58) n) .n U (aq (some l) K)
def Cd N a b (K:KT J):Cc N 1 (B8 a b) B7 K =
 ce.Z0 N a b (λc=>K .ret (B9 c)):=by kernel_rfl
def Ce(h:ce.Spec):ao Try.prog 58 nI :=
 a7 Try.func58 a8 B6 (λN X K=>Cd N X.1 X.2.1 K) (by kernel_rfl) λX hb hp=>by obtain⟨a,b,_⟩:=X;obtain⟨N,h⟩:=h a b hb.1;exact⟨N,Eq.trans (by kernel_rfl) (h N (Nat.le_refl N))⟩
def vS:ao Try.prog 58 nI:=Ce ce.ok
def vT:aR:=⟨[⟨.pair (.int .i64) (.pair (.int .i64) (.sl 3 (.int .i64))),true,false⟩,⟨.int .i64,false,false⟩],[⟨.int .i64,false,false⟩]⟩
def rJ:aH:=⟨vT,none,λX=>((),((cC.g X.1 X.2.1),()))⟩
def vU:Gm:=aQ aY 58 nI
def Cf:an Try.prog vU:=(an.nil).add vS (by kernel_rfl)
def Cg:aa:=⟨[],[],[],[],[]⟩
def Ch(a:MT)(b:Int):St:=aU vT.ps (a,(b,()))
def Ci(a:Int):St:=am [(4,xi a)] [] []
def Cj:aa:=⟨[4],[],[],[],[]⟩
def Ck:Nat->Option aa:=aw [(1000000,Cj)]
abbrev Cl{J:Type}(N n:Nat)(U:St)(l:aa)(K:KT J):Option J:=ah vU aZ Ck N (aT 99 (a6 Try.f16) n) .n U (aq (some l) K)
def Cm N a b (K:KT J):Cl N 1 (Ch a b) Cg K =
 cC.Z0 N a b (λc=>K .ret (Ci c)):=by kernel_rfl
def Cn(h:cC.Spec):ao Try.prog 16 rJ :=
 a7 Try.func16 a8 Cf (λN X K=>Cm N X.1 X.2.1 K) (by kernel_rfl) λX hb hp=>by obtain⟨a,b,_⟩:=X;obtain⟨N,h⟩:=h a b hb.1;exact⟨N,Eq.trans (by kernel_rfl) (h N (Nat.le_refl N))⟩
def Co:ao Try.prog 16 rJ:=Cn cC.ok
def vV:aR:=⟨[⟨.pair (.sl 3 (.int .i64)) (.int .i64),true,false⟩,⟨.int .i64,false,false⟩],[⟨.int .i64,false,false⟩]⟩
def rK:aH:=⟨vV,none,λX=>((),((cN.g X.1 X.2.1),()))⟩
def vW:Gm:=aQ aY 58 nI
def Cp:an Try.prog vW:=(an.nil).add vS (by kernel_rfl)
def Cq:aa:=⟨[],[],[],[],[]⟩
def Cr(a:LI×Int)(b:Int):St:=aU vV.ps (a,(b,()))
def Cs(a:Int):St:=am [(4,xi a)] [] []
def Ct:aa:=⟨[4],[],[],[],[]⟩
def Cu:Nat->Option aa:=aw [(1000000,Ct)]
abbrev Cv{J:Type}(N n:Nat)(U:St)(l:aa)(K:KT J):Option J:=ah vW aZ Cu N (aT 99 (a6 Try.f134) n) .n U (aq (some l) K)
def Cw N a b (K:KT J):Cv N 1 (Cr a b) Cq K =
 cN.Z0 N a b (λc=>K .ret (Cs c)):=by kernel_rfl
def Cx(h:cN.Spec):ao Try.prog 134 rK :=
 a7 Try.func134 a8 Cp (λN X K=>Cw N X.1 X.2.1 K) (by kernel_rfl) λX hb hp=>by obtain⟨a,b,_⟩:=X;obtain⟨N,h⟩:=h a b hb.1;exact⟨N,Eq.trans (by kernel_rfl) (h N (Nat.le_refl N))⟩
def Cy:ao Try.prog 134 rK:=Cx cN.ok
def vX:aR:=⟨[⟨.sl 135 (.pair (.sl 3 (.int .i64)) (.int .i64)),false,false⟩,⟨.int .i64,false,false⟩],[⟨.int .i64,false,false⟩]⟩
def rL:aH:=⟨vX,none,λX=>((),((bA.g X.1 X.2.1),()))⟩
def vY:Gm:=aQ aY 134 rK
def Cz:an Try.prog vY:=(an.nil).add Cy (by kernel_rfl)
def CA:aa:=⟨[],[],[],[],[]⟩
def CB(a:List (LI×Int))(b:Int):St:=aU vX.ps (a,(b,()))
def jL(a:List (LI×Int))(b:Int):St:=am [(0,.c (.sn 135 (.pair (.sl 3 tI) tI) a none)),(1,xi b)] [] []
def rM:aa:=⟨[0,1],[],[],[],[]⟩
def nJ(a:List (LI×Int))(b d:Int):St:=am [(0,.c (.sn 135 (.pair (.sl 3 tI) tI) a none)),(1,xi b),(5,xi d)] [] []
def vZ:aa:=⟨[0,1,5],[],[],[],[]⟩
def lu(a:Int):St:=am [(1,xi a)] [] []
def rN:aa:=⟨[1],[],[],[],[]⟩
def gI(a:Int):St:=am [(4,xi a)] [] []
def CC:aa:=⟨[4],[],[],[],[]⟩
def CD:Nat->Option aa:=aw [(0,rN),(1000000,CC)]
abbrev jM{J:Type}(N n:Nat)(U:St)(l:aa)(K:KT J):Option J:=ah vY aZ CD N (aT 99 (a6 Try.f117) n) .n U (aq (some l) K)
def CE N a b (K:KT J):jM N 2 (CB a b) rM K =
 bA.Z1 N a b (λa b=>K .nrm (jL a b)):=by kernel_rfl
def CF N a b (K:KT J):jM N 5 (jL a b) rM K =
 bA.Z3 N a b (λa b=>K .nrm (jL a b)):=by kernel_rfl
def CG N a b (K:KT J):jM N 11 (jL a b) rM K =
 bA.Z5 N a b (λa b=>K .nrm (jL a b)) (λc=>K .ret (gI c)):=by kernel_rfl
def CH N a b (K:KT J):jM N 39 (jL a b) vZ K =
 bA.Z8 N a b (λa b c=>K .nrm (nJ a b c)):=by kernel_rfl
def CI N b a c (K:KT J):jM N 151 (nJ b a c) vZ K =
 bA.Z11 N b a c (λb a c=>K .nrm (nJ b a c)) (λa=>K (.exit 0) (lu a)) (λd=>K .ret (gI d)):=by kernel_rfl
def CJ N (K:KT J):=dU K (bA.Z10L N (λa=>K (.exit 0) (lu a)) (λb=>K .ret (gI b))) (λc a d k=>bA.Z11 N c a d k (λa=>K (.exit 0) (lu a)) (λb=>K .ret (gI b))) (λF c a d=>CI N c a d _) (by kernel_rfl)
def CK N a b c (K:KT J):=vL (nJ a b c) (CJ N (jK rN K) N a b c) (by kernel_rfl)
def CL N b a c (K:KT J):=vB 0 rN K (bA.Z9 N b a c (λa=>K .nrm (lu a)) (λd=>K .ret (gI d))) (CK N b a c _) (by kernel_rfl)
def CM N a b (K:KT J):=vQ (λk=>bA.Z8 N a b k) (CH N a b _) (cM λa b c=>CL N a b c K)
def CN N a (K:KT J):jM N 31 (lu a) CA K =
 bA.Z12 N a (λb=>K .ret (gI b)):=by kernel_rfl
def CO N b a (K:KT J):=vQ (λk=>bA.Z7 N b a k (λc=>K .ret (gI c))) (CM N b a _) (funext λa=>CN N a K)
def CP N a b (K:KT J):=vQ (λk=>bA.Z5 N a b k (λc=>K .ret (gI c))) (CG N a b _) (bU λa b=>CO N a b K)
def CQ N a b (K:KT J):=vQ (λk=>bA.Z3 N a b k) (CF N a b _) (bU λa b=>CP N a b K)
def CR N a b (K:KT J):=vQ (λk=>bA.Z1 N a b k) (CE N a b _) (bU λa b=>CQ N a b K)
def CS(h:bA.Spec):ao Try.prog 117 rL :=
 a7 Try.func117 a8 Cz (λN X K=>CR N X.1 X.2.1 K) (by kernel_rfl) λX hb hp=>by obtain⟨a,b,_⟩:=X;obtain⟨N,h⟩:=h a b hb.1;exact⟨N,Eq.trans (by kernel_rfl) (h N (Nat.le_refl N))⟩
def CT:ao Try.prog 117 rL:=CS bA.ok
def v7:aR:=⟨[⟨.pair (.int .i64) (.sl 135 (.pair (.sl 3 (.int .i64)) (.int .i64))),true,false⟩,⟨.int .i64,false,false⟩],[⟨.int .i64,false,false⟩]⟩
def rO:aH:=⟨v7,none,λX=>((),((cO.g X.1 X.2.1),()))⟩
def v8:Gm:=aQ aY 117 rL
def CU:an Try.prog v8:=(an.nil).add CT (by kernel_rfl)
def CV:aa:=⟨[],[],[],[],[]⟩
def CW(a:Int×List (LI×Int))(b:Int):St:=aU v7.ps (a,(b,()))
def CX(a:Int):St:=am [(4,xi a)] [] []
def CY:aa:=⟨[4],[],[],[],[]⟩
def CZ:Nat->Option aa:=aw [(1000000,CY)]
abbrev C0{J:Type}(N n:Nat)(U:St)(l:aa)(K:KT J):Option J:=ah v8 aZ CZ N (aT 99 (a6 Try.f93) n) .n U (aq (some l) K)
def C2 N a b (K:KT J):C0 N 1 (CW a b) CV K =
 cO.Z0 N a b (λc=>K .ret (CX c)):=by kernel_rfl
def C3(h:cO.Spec):ao Try.prog 93 rO :=
 a7 Try.func93 a8 CU (λN X K=>C2 N X.1 X.2.1 K) (by kernel_rfl) λX hb hp=>by obtain⟨a,b,_⟩:=X;obtain⟨N,h⟩:=h a b hb.1;exact⟨N,Eq.trans (by kernel_rfl) (h N (Nat.le_refl N))⟩
def C4:ao Try.prog 93 rO:=C3 cO.ok
def v9:aR:=⟨[⟨.sl 103 (.pair (.int .i64) (.sl 135 (.pair (.sl 3 (.int .i64)) (.int .i64)))),false,false⟩,⟨.int .i64,false,false⟩],[⟨.int .i64,false,false⟩]⟩
def rP:aH:=⟨v9,none,λX=>((),((bN.g X.1 X.2.1),()))⟩
def wa:Gm:=aQ aY 93 rO
def C5:an Try.prog wa:=(an.nil).add C4 (by kernel_rfl)
def C6:aa:=⟨[],[],[],[],[]⟩
def C7(a:List (Int×List (LI×Int)))(b:Int):St:=aU v9.ps (a,(b,()))
def jN(a:List (Int×List (LI×Int)))(b:Int):St:=am [(0,.c (.sn 103 (.pair tI (.sl 135 (.pair (.sl 3 tI) tI))) a none)),(1,xi b)] [] []
def rQ:aa:=⟨[0,1],[],[],[],[]⟩
def nK(a:List (Int×List (LI×Int)))(b d:Int):St:=am [(0,.c (.sn 103 (.pair tI (.sl 135 (.pair (.sl 3 tI) tI))) a none)),(1,xi b),(5,xi d)] [] []
def wb:aa:=⟨[0,1,5],[],[],[],[]⟩
def lv(a:Int):St:=am [(1,xi a)] [] []
def rR:aa:=⟨[1],[],[],[],[]⟩
def gJ(a:Int):St:=am [(4,xi a)] [] []
def C8:aa:=⟨[4],[],[],[],[]⟩
def C9:Nat->Option aa:=aw [(0,rR),(1000000,C8)]
abbrev jO{J:Type}(N n:Nat)(U:St)(l:aa)(K:KT J):Option J:=ah wa aZ C9 N (aT 99 (a6 Try.f50) n) .n U (aq (some l) K)
def Da N a b (K:KT J):jO N 2 (C7 a b) rQ K =
 bN.Z1 N a b (λa b=>K .nrm (jN a b)):=by kernel_rfl
def Db N a b (K:KT J):jO N 5 (jN a b) rQ K =
 bN.Z3 N a b (λa b=>K .nrm (jN a b)):=by kernel_rfl
def Dc N a b (K:KT J):jO N 11 (jN a b) rQ K =
 bN.Z5 N a b (λa b=>K .nrm (jN a b)) (λc=>K .ret (gJ c)):=by kernel_rfl
def Dd N a b (K:KT J):jO N 39 (jN a b) wb K =
 bN.Z8 N a b (λa b c=>K .nrm (nK a b c)):=by kernel_rfl
def De N b a c (K:KT J):jO N 151 (nK b a c) wb K =
 bN.Z11 N b a c (λb a c=>K .nrm (nK b a c)) (λa=>K (.exit 0) (lv a)) (λd=>K .ret (gJ d)):=by kernel_rfl
def Df N (K:KT J):=dU K (bN.Z10L N (λa=>K (.exit 0) (lv a)) (λb=>K .ret (gJ b))) (λc a d k=>bN.Z11 N c a d k (λa=>K (.exit 0) (lv a)) (λb=>K .ret (gJ b))) (λF c a d=>De N c a d _) (by kernel_rfl)
def Dg N a b c (K:KT J):=vL (nK a b c) (Df N (jK rR K) N a b c) (by kernel_rfl)
def Dh N b a c (K:KT J):=vB 0 rR K (bN.Z9 N b a c (λa=>K .nrm (lv a)) (λd=>K .ret (gJ d))) (Dg N b a c _) (by kernel_rfl)
def Di N a b (K:KT J):=vQ (λk=>bN.Z8 N a b k) (Dd N a b _) (cM λa b c=>Dh N a b c K)
def Dj N a (K:KT J):jO N 31 (lv a) C6 K =
 bN.Z12 N a (λb=>K .ret (gJ b)):=by kernel_rfl
def Dk N b a (K:KT J):=vQ (λk=>bN.Z7 N b a k (λc=>K .ret (gJ c))) (Di N b a _) (funext λa=>Dj N a K)
def Dl N a b (K:KT J):=vQ (λk=>bN.Z5 N a b k (λc=>K .ret (gJ c))) (Dc N a b _) (bU λa b=>Dk N a b K)
def Dm N a b (K:KT J):=vQ (λk=>bN.Z3 N a b k) (Db N a b _) (bU λa b=>Dl N a b K)
def Dn N a b (K:KT J):=vQ (λk=>bN.Z1 N a b k) (Da N a b _) (bU λa b=>Dm N a b K)
def Do(h:bN.Spec):ao Try.prog 50 rP :=
 a7 Try.func50 a8 C5 (λN X K=>Dn N X.1 X.2.1 K) (by kernel_rfl) λX hb hp=>by obtain⟨a,b,_⟩:=X;obtain⟨N,h⟩:=h a b hb.1;exact⟨N,Eq.trans (by kernel_rfl) (h N (Nat.le_refl N))⟩
def Dp:ao Try.prog 50 rP:=Do bN.ok
def wc:aR:=⟨[⟨.pair (.pair (.int .i64) (.pair (.int .i64) (.sl 3 (.int .i64)))) (.sl 103 (.pair (.int .i64) (.sl 135 (.pair (.sl 3 (.int .i64)) (.int .i64))))),true,false⟩,⟨.int .i64,false,false⟩],[⟨.int .i64,false,false⟩]⟩
def rS:aH:=⟨wc,none,λX=>((),((eT.g X.1 X.2.1),()))⟩
def wd:Gm:=aQ (aQ aY 16 rJ) 50 rP
def Dq:an Try.prog wd:=((an.nil).add Co (by kernel_rfl)).add Dp (by kernel_rfl)
def Dr:aa:=⟨[],[],[],[],[]⟩
def Ds(a:(MT)×List (Int×List (LI×Int)))(b:Int):St:=aU wc.ps (a,(b,()))
def Dt(a:Int):St:=am [(4,xi a)] [] []
def Du:aa:=⟨[4],[],[],[],[]⟩
def Dv:Nat->Option aa:=aw [(1000000,Du)]
abbrev Dw{J:Type}(N n:Nat)(U:St)(l:aa)(K:KT J):Option J:=ah wd aZ Dv N (aT 99 (a6 Try.f11) n) .n U (aq (some l) K)
def Dx N a b (K:KT J):Dw N 1 (Ds a b) Dr K =
 eT.Z0 N a b (λc=>K .ret (Dt c)):=by kernel_rfl
def Dy(h:eT.Spec):ao Try.prog 11 rS :=
 a7 Try.func11 a8 Dq (λN X K=>Dx N X.1 X.2.1 K) (by kernel_rfl) λX hb hp=>by obtain⟨a,b,_⟩:=X;obtain⟨N,h⟩:=h a b hb.1;exact⟨N,Eq.trans (by kernel_rfl) (h N (Nat.le_refl N))⟩
def Dz:ao Try.prog 11 rS:=Dy eT.ok
def we:aR:=⟨[⟨.sl 3 (.int .i64),false,false⟩],[⟨.sl 3 (.int .i64),false,false⟩]⟩
def nL:aH:=⟨we,(some λX=>bO.P X.1),λX=>((),((bO.g X.1),()))⟩
def wg:Gm:=aY
def DA:an Try.prog wg:=an.nil
def DB:aa:=⟨[],[],[],[],[]⟩
def DD(a:LI):St:=aU we.ps (a,())
def wh(a:LI):St:=am [(0,.c (.sn 3 tI a none))] [] []
def DE:aa:=⟨[0],[],[],[],[]⟩
def wi(a b:LI):St:=am [(0,.c (.sn 3 tI b none)),(3,xo 1000192)] [] [(1000192,(⟨3,.int .i64,a,true,false⟩:ac))]
def DF:aa:=⟨[0,3],[],[],[],[(⟨false,3,0⟩,1000192)]⟩
def nM(a b:LI)(d:Int):St:=am [(0,.c (.sn 3 tI b none)),(3,xo 1000192),(4,xi d)] [] [(1000192,(⟨3,.int .i64,a,true,false⟩:ac))]
def wj:aa:=⟨[0,3,4],[],[],[],[(⟨false,3,0⟩,1000192)]⟩
def lw(a:LI):St:=am [(3,xo 1000192)] [] [(1000192,(⟨3,.int .i64,a,true,false⟩:ac))]
def rT:aa:=⟨[3],[],[],[],[(⟨false,3,0⟩,1000192)]⟩
def DG(a:LI):St:=am [(2,xo 1000128)] [] [(1000128,(⟨3,.int .i64,a,true,false⟩:ac))]
def DH:aa:=⟨[2],[],[],[],[(⟨false,2,0⟩,1000128)]⟩
def DI:Nat->Option aa:=aw [(0,rT),(1000000,DH)]
abbrev lx{J:Type}(N n:Nat)(U:St)(l:aa)(K:KT J):Option J:=ah wg aZ DI N (aT 99 (a6 Try.f35) n) .n U (aq (some l) K)
def DJ N a (K:KT J):lx N 2 (DD a) DE K =
 bO.Z1 N a (λa=>K .nrm (wh a)):=by kernel_rfl
def DK N a (K:KT J):lx N 5 (wh a) DF K =
 bO.Z3 N a (λb a=>K .nrm (wi b a)):=by kernel_rfl
def DL N a b (K:KT J):lx N 19 (wi a b) wj K =
 bO.Z6 N a b (λa b c=>K .nrm (nM a b c)):=by kernel_rfl
def DM N a b c (K:KT J):lx N 75 (nM a b c) wj K =
 bO.Z9 N a b c (λa b c=>K .nrm (nM a b c)) (λa=>K (.exit 0) (lw a)):=by kernel_rfl
def DN N (K:KT J):=dU K (bO.Z8L N (λa=>K (.exit 0) (lw a))) (λa b c k=>bO.Z9 N a b c k (λa=>K (.exit 0) (lw a))) (λF a b c=>DM N a b c _) (by kernel_rfl)
def DO N a b c (K:KT J):=vL (nM a b c) (DN N (jK rT K) N a b c) (by kernel_rfl)
def DP N a b c (K:KT J):=vB 0 rT K (bO.Z7 N a b c (λa=>K .nrm (lw a))) (DO N a b c _) (by kernel_rfl)
def DQ N a b (K:KT J):=vQ (λk=>bO.Z6 N a b k) (DL N a b _) (cM λa b c=>DP N a b c K)
def DR N a (K:KT J):lx N 15 (lw a) DB K =
 bO.Z10 N a (λb=>K .ret (DG b)):=by kernel_rfl
def DS N a b (K:KT J):=vQ (λk=>bO.Z5 N a b k) (DQ N a b _) (funext λa=>DR N a K)
def DT N a (K:KT J):=vQ (λk=>bO.Z3 N a k) (DK N a _) (bU λb a=>DS N b a K)
def DU N a (K:KT J):=vQ (λk=>bO.Z1 N a k) (DJ N a _) (funext λa=>DT N a K)
def DV(h:bO.Spec):ao Try.prog 35 nL :=
 a7 Try.func35 a8 DA (λN X K=>DU N X.1 K) (by kernel_rfl) λX hb hp=>by obtain⟨a,_⟩:=X;obtain⟨N,h⟩:=h a hb.1 hp;exact⟨N,Eq.trans (by kernel_rfl) (h N (Nat.le_refl N))⟩
def wk:ao Try.prog 35 nL:=DV bO.ok
def wl:aR:=⟨[⟨.pair (.int .i64) (.pair (.int .i64) (.sl 3 (.int .i64))),true,false⟩],[⟨.pair (.int .i64) (.pair (.int .i64) (.sl 3 (.int .i64))),true,false⟩]⟩
def rU:aH:=⟨wl,(some λX=>dX.P X.1),λX=>((),((dX.g X.1),()))⟩
def wm:Gm:=aQ aY 35 nL
def DW:an Try.prog wm:=(an.nil).add wk (by kernel_rfl)
def DX:aa:=⟨[],[],[],[],[]⟩
def DY(a:MT):St:=aU wl.ps (a,())
def DZ(a:LI)(b c:Int):St:=am [(2,xb 2)] [(2,(30,[yi b,yi c,.own 20000130]))] [(20000130,(⟨3,.int .i64,a,true,false⟩:ac))]
def D0:aa:=⟨[2],[2],[],[],[(⟨true,2,2⟩,20000130)]⟩
def D1:Nat->Option aa:=aw [(1000000,D0)]
abbrev D2{J:Type}(N n:Nat)(U:St)(l:aa)(K:KT J):Option J:=ah wm aZ D1 N (aT 99 (a6 Try.f18) n) .n U (aq (some l) K)
def D3 N a (K:KT J):D2 N 1 (DY a) DX K =
 dX.Z0 N a (λb c d=>K .ret (DZ b c d)):=by kernel_rfl
def D4(h:dX.Spec):ao Try.prog 18 rU :=
 a7 Try.func18 a8 DW (λN X K=>D3 N X.1 K) (by kernel_rfl) λX hb hp=>by obtain⟨a,_⟩:=X;obtain⟨N,h⟩:=h a hb.1 hp;exact⟨N,Eq.trans (by kernel_rfl) (h N (Nat.le_refl N))⟩
def D5:ao Try.prog 18 rU:=D4 dX.ok
def wn:aR:=⟨[⟨.pair (.sl 3 (.int .i64)) (.int .i64),true,false⟩],[⟨.pair (.sl 3 (.int .i64)) (.int .i64),true,false⟩]⟩
def rV:aH:=⟨wn,(some λX=>eG.P X.1),λX=>((),((eG.g X.1),()))⟩
def wo:Gm:=aQ aY 35 nL
def D6:an Try.prog wo:=(an.nil).add wk (by kernel_rfl)
def D7:aa:=⟨[],[],[],[],[]⟩
def D8(a:LI×Int):St:=aU wn.ps (a,())
def D9(a:LI)(b:Int):St:=am [(2,xb 2)] [(2,(107,[.own 20000128,yi b]))] [(20000128,(⟨3,.int .i64,a,true,false⟩:ac))]
def Ea:aa:=⟨[2],[2],[],[],[(⟨true,2,0⟩,20000128)]⟩
def Eb:Nat->Option aa:=aw [(1000000,Ea)]
abbrev Ec{J:Type}(N n:Nat)(U:St)(l:aa)(K:KT J):Option J:=ah wo aZ Eb N (aT 99 (a6 Try.f135) n) .n U (aq (some l) K)
def Ed N a (K:KT J):Ec N 1 (D8 a) D7 K =
 eG.Z0 N a (λb c=>K .ret (D9 b c)):=by kernel_rfl
def Ee(h:eG.Spec):ao Try.prog 135 rV :=
 a7 Try.func135 a8 D6 (λN X K=>Ed N X.1 K) (by kernel_rfl) λX hb hp=>by obtain⟨a,_⟩:=X;obtain⟨N,h⟩:=h a hb.1 hp;exact⟨N,Eq.trans (by kernel_rfl) (h N (Nat.le_refl N))⟩
def Ef:ao Try.prog 135 rV:=Ee eG.ok
def wq:aR:=⟨[⟨.sl 135 (.pair (.sl 3 (.int .i64)) (.int .i64)),false,false⟩],[⟨.sl 107 (.pair (.sl 3 (.int .i64)) (.int .i64)),false,false⟩]⟩
def rW:aH:=⟨wq,(some λX=>bX.P X.1),λX=>((),((bX.g X.1),()))⟩
def wr:Gm:=aQ aY 135 rV
def Eg:an Try.prog wr:=(an.nil).add Ef (by kernel_rfl)
def Eh:aa:=⟨[],[],[],[],[]⟩
def Ei(a:List (LI×Int)):St:=aU wq.ps (a,())
def ws(a:List (LI×Int)):St:=am [(0,.c (.sn 135 (.pair (.sl 3 tI) tI) a none))] [] []
def Ej:aa:=⟨[0],[],[],[],[]⟩
def wt(a b:List (LI×Int)):St:=am [(0,.c (.sn 135 (.pair (.sl 3 tI) tI) b none)),(3,xo 1000192)] [] [(1000192,(⟨107,.pair (.sl 3 tI) tI,a,true,false⟩:ac))]
def Ek:aa:=⟨[0,3],[],[],[],[(⟨false,3,0⟩,1000192)]⟩
def nN(a b:List (LI×Int))(d:Int):St:=am [(0,.c (.sn 135 (.pair (.sl 3 tI) tI) b none)),(3,xo 1000192),(4,xi d)] [] [(1000192,(⟨107,.pair (.sl 3 tI) tI,a,true,false⟩:ac))]
def wu:aa:=⟨[0,3,4],[],[],[],[(⟨false,3,0⟩,1000192)]⟩
def ly(a:List (LI×Int)):St:=am [(3,xo 1000192)] [] [(1000192,(⟨107,.pair (.sl 3 tI) tI,a,true,false⟩:ac))]
def rX:aa:=⟨[3],[],[],[],[(⟨false,3,0⟩,1000192)]⟩
def El(a:List (LI×Int)):St:=am [(2,xo 1000128)] [] [(1000128,(⟨107,.pair (.sl 3 tI) tI,a,true,false⟩:ac))]
def Em:aa:=⟨[2],[],[],[],[(⟨false,2,0⟩,1000128)]⟩
def En:Nat->Option aa:=aw [(0,rX),(1000000,Em)]
abbrev lz{J:Type}(N n:Nat)(U:St)(l:aa)(K:KT J):Option J:=ah wr aZ En N (aT 99 (a6 Try.f121) n) .n U (aq (some l) K)
def Eo N a (K:KT J):lz N 2 (Ei a) Ej K =
 bX.Z1 N a (λa=>K .nrm (ws a)):=by kernel_rfl
def Ep N a (K:KT J):lz N 5 (ws a) Ek K =
 bX.Z3 N a (λb a=>K .nrm (wt b a)):=by kernel_rfl
def Er N a b (K:KT J):lz N 19 (wt a b) wu K =
 bX.Z6 N a b (λa b c=>K .nrm (nN a b c)):=by kernel_rfl
def Es N a b c (K:KT J):lz N 75 (nN a b c) wu K =
 bX.Z9 N a b c (λa b c=>K .nrm (nN a b c)) (λa=>K (.exit 0) (ly a)):=by kernel_rfl
def Et N (K:KT J):=dU K (bX.Z8L N (λa=>K (.exit 0) (ly a))) (λa b c k=>bX.Z9 N a b c k (λa=>K (.exit 0) (ly a))) (λF a b c=>Es N a b c _) (by kernel_rfl)
def Eu N a b c (K:KT J):=vL (nN a b c) (Et N (jK rX K) N a b c) (by kernel_rfl)
def Ev N a b c (K:KT J):=vB 0 rX K (bX.Z7 N a b c (λa=>K .nrm (ly a))) (Eu N a b c _) (by kernel_rfl)
def Ew N a b (K:KT J):=vQ (λk=>bX.Z6 N a b k) (Er N a b _) (cM λa b c=>Ev N a b c K)
def Ey N a (K:KT J):lz N 15 (ly a) Eh K =
 bX.Z10 N a (λb=>K .ret (El b)):=by kernel_rfl
def Ez N a b (K:KT J):=vQ (λk=>bX.Z5 N a b k) (Ew N a b _) (funext λa=>Ey N a K)
def EA N a (K:KT J):=vQ (λk=>bX.Z3 N a k) (Ep N a _) (bU λb a=>Ez N b a K)
def EB N a (K:KT J):=vQ (λk=>bX.Z1 N a k) (Eo N a _) (funext λa=>EA N a K)
def EC(h:bX.Spec):ao Try.prog 121 rW :=
 a7 Try.func121 a8 Eg (λN X K=>EB N X.1 K) (by kernel_rfl) λX hb hp=>by obtain⟨a,_⟩:=X;obtain⟨N,h⟩:=h a hb.1 hp;exact⟨N,Eq.trans (by kernel_rfl) (h N (Nat.le_refl N))⟩
def ED:ao Try.prog 121 rW:=EC bX.ok
def wv:aR:=⟨[⟨.pair (.int .i64) (.sl 135 (.pair (.sl 3 (.int .i64)) (.int .i64))),true,false⟩],[⟨.pair (.int .i64) (.sl 107 (.pair (.sl 3 (.int .i64)) (.int .i64))),true,false⟩]⟩
def rY:aH:=⟨wv,(some λX=>dK.P X.1),λX=>((),((dK.g X.1),()))⟩
def ww:Gm:=aQ aY 121 rW
def EE:an Try.prog ww:=(an.nil).add ED (by kernel_rfl)
def EF:aa:=⟨[],[],[],[],[]⟩
def EG(a:Int×List (LI×Int)):St:=aU wv.ps (a,())
def EH(a:List (LI×Int))(b:Int):St:=am [(2,xb 2)] [(2,(71,[yi b,.own 20000129]))] [(20000129,(⟨107,.pair (.sl 3 tI) tI,a,true,false⟩:ac))]
def EI:aa:=⟨[2],[2],[],[],[(⟨true,2,1⟩,20000129)]⟩
def EJ:Nat->Option aa:=aw [(1000000,EI)]
abbrev EK{J:Type}(N n:Nat)(U:St)(l:aa)(K:KT J):Option J:=ah ww aZ EJ N (aT 99 (a6 Try.f96) n) .n U (aq (some l) K)
def EL N a (K:KT J):EK N 1 (EG a) EF K =
 dK.Z0 N a (λb c=>K .ret (EH b c)):=by kernel_rfl
def EM(h:dK.Spec):ao Try.prog 96 rY :=
 a7 Try.func96 a8 EE (λN X K=>EL N X.1 K) (by kernel_rfl) λX hb hp=>by obtain⟨a,_⟩:=X;obtain⟨N,h⟩:=h a hb.1 hp;exact⟨N,Eq.trans (by kernel_rfl) (h N (Nat.le_refl N))⟩
def EN:ao Try.prog 96 rY:=EM dK.ok
def wx:aR:=⟨[⟨.sl 103 (.pair (.int .i64) (.sl 135 (.pair (.sl 3 (.int .i64)) (.int .i64)))),false,false⟩],[⟨.sl 71 (.pair (.int .i64) (.sl 107 (.pair (.sl 3 (.int .i64)) (.int .i64)))),false,false⟩]⟩
def rZ:aH:=⟨wx,(some λX=>cy.P X.1),λX=>((),((cy.g X.1),()))⟩
def wy:Gm:=aQ aY 96 rY
def EO:an Try.prog wy:=(an.nil).add EN (by kernel_rfl)
def EP:aa:=⟨[],[],[],[],[]⟩
def EQ(a:List (Int×List (LI×Int))):St:=aU wx.ps (a,())
def wz(a:List (Int×List (LI×Int))):St:=am [(0,.c (.sn 103 (.pair tI (.sl 135 (.pair (.sl 3 tI) tI))) a none))] [] []
def ER:aa:=⟨[0],[],[],[],[]⟩
def wA(a b:List (Int×List (LI×Int))):St:=am [(0,.c (.sn 103 (.pair tI (.sl 135 (.pair (.sl 3 tI) tI))) b none)),(3,xo 1000192)] [] [(1000192,(⟨71,.pair tI (.sl 107 (.pair (.sl 3 tI) tI)),a,true,false⟩:ac))]
def ES:aa:=⟨[0,3],[],[],[],[(⟨false,3,0⟩,1000192)]⟩
def nO(a b:List (Int×List (LI×Int)))(d:Int):St:=am [(0,.c (.sn 103 (.pair tI (.sl 135 (.pair (.sl 3 tI) tI))) b none)),(3,xo 1000192),(4,xi d)] [] [(1000192,(⟨71,.pair tI (.sl 107 (.pair (.sl 3 tI) tI)),a,true,false⟩:ac))]
def wB:aa:=⟨[0,3,4],[],[],[],[(⟨false,3,0⟩,1000192)]⟩
def lA(a:List (Int×List (LI×Int))):St:=am [(3,xo 1000192)] [] [(1000192,(⟨71,.pair tI (.sl 107 (.pair (.sl 3 tI) tI)),a,true,false⟩:ac))]
def r0:aa:=⟨[3],[],[],[],[(⟨false,3,0⟩,1000192)]⟩
def ET(a:List (Int×List (LI×Int))):St:=am [(2,xo 1000128)] [] [(1000128,(⟨71,.pair tI (.sl 107 (.pair (.sl 3 tI) tI)),a,true,false⟩:ac))]
def EU:aa:=⟨[2],[],[],[],[(⟨false,2,0⟩,1000128)]⟩
def EV:Nat->Option aa:=aw [(0,r0),(1000000,EU)]
abbrev lB{J:Type}(N n:Nat)(U:St)(l:aa)(K:KT J):Option J:=ah wy aZ EV N (aT 99 (a6 Try.f53) n) .n U (aq (some l) K)
def EW N a (K:KT J):lB N 2 (EQ a) ER K =
 cy.Z1 N a (λa=>K .nrm (wz a)):=by kernel_rfl
def EX N a (K:KT J):lB N 5 (wz a) ES K =
 cy.Z3 N a (λb a=>K .nrm (wA b a)):=by kernel_rfl
def EY N a b (K:KT J):lB N 19 (wA a b) wB K =
 cy.Z6 N a b (λa b c=>K .nrm (nO a b c)):=by kernel_rfl
def EZ N a b c (K:KT J):lB N 75 (nO a b c) wB K =
 cy.Z9 N a b c (λa b c=>K .nrm (nO a b c)) (λa=>K (.exit 0) (lA a)):=by kernel_rfl
def E3 N (K:KT J):=dU K (cy.Z8L N (λa=>K (.exit 0) (lA a))) (λa b c k=>cy.Z9 N a b c k (λa=>K (.exit 0) (lA a))) (λF a b c=>EZ N a b c _) (by kernel_rfl)
def E4 N a b c (K:KT J):=vL (nO a b c) (E3 N (jK r0 K) N a b c) (by kernel_rfl)
def E5 N a b c (K:KT J):=vB 0 r0 K (cy.Z7 N a b c (λa=>K .nrm (lA a))) (E4 N a b c _) (by kernel_rfl)
def E6 N a b (K:KT J):=vQ (λk=>cy.Z6 N a b k) (EY N a b _) (cM λa b c=>E5 N a b c K)
def E7 N a (K:KT J):lB N 15 (lA a) EP K =
 cy.Z10 N a (λb=>K .ret (ET b)):=by kernel_rfl
def E8 N a b (K:KT J):=vQ (λk=>cy.Z5 N a b k) (E6 N a b _) (funext λa=>E7 N a K)
def E9 N a (K:KT J):=vQ (λk=>cy.Z3 N a k) (EX N a _) (bU λb a=>E8 N b a K)
def Fa N a (K:KT J):=vQ (λk=>cy.Z1 N a k) (EW N a _) (funext λa=>E9 N a K)
def Fb(h:cy.Spec):ao Try.prog 53 rZ :=
 a7 Try.func53 a8 EO (λN X K=>Fa N X.1 K) (by kernel_rfl) λX hb hp=>by obtain⟨a,_⟩:=X;obtain⟨N,h⟩:=h a hb.1 hp;exact⟨N,Eq.trans (by kernel_rfl) (h N (Nat.le_refl N))⟩
def Fc:ao Try.prog 53 rZ:=Fb cy.ok
def wC:aR:=⟨[⟨.pair (.pair (.int .i64) (.pair (.int .i64) (.sl 3 (.int .i64)))) (.sl 103 (.pair (.int .i64) (.sl 135 (.pair (.sl 3 (.int .i64)) (.int .i64))))),true,false⟩],[⟨.pair (.pair (.int .i64) (.pair (.int .i64) (.sl 3 (.int .i64)))) (.sl 71 (.pair (.int .i64) (.sl 107 (.pair (.sl 3 (.int .i64)) (.int .i64))))),true,false⟩]⟩
def r6:aH:=⟨wC,(some λX=>de.P X.1),λX=>((),((de.g X.1),()))⟩
def wD:Gm:=aQ (aQ aY 18 rU) 53 rZ
def Fd:an Try.prog wD:=((an.nil).add D5 (by kernel_rfl)).add Fc (by kernel_rfl)
def Fe:aa:=⟨[],[],[],[],[]⟩
def Ff(a:(MT)×List (Int×List (LI×Int))):St:=aU wC.ps (a,())
def Fg(a:LI)(b:List (Int×List (LI×Int)))(c d:Int):St:=am [(2,xb 2)] [(2,(33,[yi c,yi d,.own 20000130,.own 20000131]))] [(20000130,(⟨3,.int .i64,a,true,false⟩:ac)),(20000131,(⟨71,.pair tI (.sl 107 (.pair (.sl 3 tI) tI)),b,true,false⟩:ac))]
def Fh:aa:=⟨[2],[2],[],[],[(⟨true,2,2⟩,20000130),(⟨true,2,3⟩,20000131)]⟩
def Fi:Nat->Option aa:=aw [(1000000,Fh)]
abbrev Fj{J:Type}(N n:Nat)(U:St)(l:aa)(K:KT J):Option J:=ah wD aZ Fi N (aT 99 (a6 Try.f13) n) .n U (aq (some l) K)
def Fk N a (K:KT J):Fj N 1 (Ff a) Fe K =
 de.Z0 N a (λb c d e=>K .ret (Fg b c d e)):=by kernel_rfl
def Fl(h:de.Spec):ao Try.prog 13 r6 :=
 a7 Try.func13 a8 Fd (λN X K=>Fk N X.1 K) (by kernel_rfl) λX hb hp=>by obtain⟨a,_⟩:=X;obtain⟨N,h⟩:=h a hb.1 hp;exact⟨N,Eq.trans (by kernel_rfl) (h N (Nat.le_refl N))⟩
def Fm:ao Try.prog 13 r6:=Fl de.ok
def wE:aR:=⟨[⟨.int .i64,false,false⟩,⟨.int .i64,false,false⟩,⟨.int .i64,false,false⟩],[⟨.bool,false,false⟩]⟩
def nP:aH:=⟨wE,none,λX=>((),((dg.g X.1 X.2.1 X.2.2.1),()))⟩
def wF:Gm:=aY
def Fn:an Try.prog wF:=an.nil
def Fo:aa:=⟨[],[],[],[],[]⟩
def Fp(a b c:Int):St:=aU wE.ps (a,(b,(c,())))
def Fq(a:Bool):St:=am [(6,xB a)] [] []
def Fr:aa:=⟨[6],[],[],[],[]⟩
def Fs:Nat->Option aa:=aw [(1000000,Fr)]
abbrev Ft{J:Type}(N n:Nat)(U:St)(l:aa)(K:KT J):Option J:=ah wF aZ Fs N (aT 99 (a6 Try.f72) n) .n U (aq (some l) K)
def Fu N a b c (K:KT J):Ft N 1 (Fp a b c) Fo K =
 dg.Z0 N a b c (λd=>K .ret (Fq d)):=by kernel_rfl
def Fv(h:dg.Spec):ao Try.prog 72 nP :=
 a7 Try.func72 a8 Fn (λN X K=>Fu N X.1 X.2.1 X.2.2.1 K) (by kernel_rfl) λX hb hp=>by obtain⟨a,b,c,_⟩:=X;obtain⟨N,h⟩:=h a b c;exact⟨N,Eq.trans (by kernel_rfl) (h N (Nat.le_refl N))⟩
def wG:ao Try.prog 72 nP:=Fv dg.ok
def wH:aR:=⟨[⟨.pair (.int .i64) (.pair (.int .i64) (.sl 3 (.int .i64))),true,false⟩,⟨.int .i64,false,false⟩,⟨.int .i64,false,false⟩],[⟨.int .i64,false,false⟩]⟩
def lC:aH:=⟨wH,(some λX=>bC.P X.1 X.2.1 X.2.2.1),λX=>((),((bC.g X.1 X.2.1 X.2.2.1),()))⟩
def wI:Gm:=aY
def Fx:an Try.prog wI:=an.nil
def Fy:aa:=⟨[],[],[],[],[]⟩
def Fz(a:MT)(b c:Int):St:=aU wH.ps (a,(b,(c,())))
def FA(a:Int):St:=am [(6,xi a)] [] []
def FB:aa:=⟨[6],[],[],[],[]⟩
def FC:Nat->Option aa:=aw [(1000000,FB)]
abbrev FD{J:Type}(N n:Nat)(U:St)(l:aa)(K:KT J):Option J:=ah wI aZ FC N (aT 99 (a6 Try.f80) n) .n U (aq (some l) K)
def FE N a b c (K:KT J):FD N 1 (Fz a b c) Fy K =
 bC.Z0 N a b c (λd=>K .ret (FA d)):=by kernel_rfl
def FF(h:bC.Spec):ao Try.prog 80 lC :=
 a7 Try.func80 a8 Fx (λN X K=>FE N X.1 X.2.1 X.2.2.1 K) (by kernel_rfl) λX hb hp=>by obtain⟨a,b,c,_⟩:=X;obtain⟨N,h⟩:=h a b c hb.1 hp;exact⟨N,Eq.trans (by kernel_rfl) (h N (Nat.le_refl N))⟩
def r7:ao Try.prog 80 lC:=FF bC.ok
def wJ:aR:=⟨[⟨.pair (.int .i64) (.pair (.int .i64) (.sl 3 (.int .i64))),true,false⟩],[⟨.bool,false,false⟩]⟩
def r8:aH:=⟨wJ,none,λX=>((),((bB.g X.1),()))⟩
def wK:Gm:=aQ (aQ aY 72 nP) 80 lC
def FG:an Try.prog wK:=((an.nil).add wG (by kernel_rfl)).add r7 (by kernel_rfl)
def FH:aa:=⟨[],[],[],[],[]⟩
def FI(a:MT):St:=aU wJ.ps (a,())
def fU(a b:Int)(c:LI):St:=am [(1,xb 1)] [(1,(30,[yi a,yi b,.sn 3 tI c none]))] []
def lD:aa:=⟨[1],[1],[],[],[]⟩
def nQ(a b c:Int)(d:LI):St:=am [(1,xb 1),(3,xi a)] [(1,(30,[yi b,yi c,.sn 3 tI d none]))] []
def wL:aa:=⟨[1,3],[1],[],[],[]⟩
def eO(a b c:Int)(d:LI):St:=am [(1,xb 1),(4,xi a)] [(1,(30,[yi b,yi c,.sn 3 tI d none]))] []
def gK:aa:=⟨[1,4],[1],[],[],[]⟩
def nR(a b c d:Int)(e:LI):St:=am [(1,xb 1),(4,xi a),(5,xi b)] [(1,(30,[yi c,yi d,.sn 3 tI e none]))] []
def wM:aa:=⟨[1,4,5],[1],[],[],[]⟩
def jP :St:=am [] [] []
def r9:aa:=⟨[],[],[],[],[]⟩
def dc(a:Bool):St:=am [(2,xB a)] [] []
def FJ:aa:=⟨[2],[],[],[],[]⟩
def FK:Nat->Option aa:=aw [(0,lD),(4,gK),(3,gK),(2,r9),(1000000,FJ)]
abbrev fD{J:Type}(N n:Nat)(U:St)(l:aa)(K:KT J):Option J:=ah wK aZ FK N (aT 99 (a6 Try.f74) n) .n U (aq (some l) K)
def FL N a (K:KT J):fD N 2 (FI a) lD K =
 bB.Z1 N a (λb c d=>K .nrm (fU b c d)):=by kernel_rfl
def FM N a b c (K:KT J):fD N 5 (fU a b c) lD K =
 bB.Z3 N a b c (λa b c=>K .nrm (fU a b c)) (λd=>K .ret (dc d)):=by kernel_rfl
def FN N a b c (K:KT J):fD N 19 (fU a b c) wL K =
 bB.Z6 N a b c (λd a b c=>K .nrm (nQ d a b c)):=by kernel_rfl
def FO N d a b c (K:KT J):fD N 75 (nQ d a b c) wL K =
 bB.Z9 N d a b c (λd a b c=>K .nrm (nQ d a b c)) (λa b c=>K (.exit 0) (fU a b c)) (λe=>K .ret (dc e)):=by kernel_rfl
def FP N (K:KT J):=q8 K (bB.Z8L N (λa b c=>K (.exit 0) (fU a b c)) (λd=>K .ret (dc d))) (λe a b c k=>bB.Z9 N e a b c k (λa b c=>K (.exit 0) (fU a b c)) (λd=>K .ret (dc d))) (λF e a b c=>FO N e a b c _) (by kernel_rfl)
def FQ N a b c d (K:KT J):=vL (nQ a b c d) (FP N (jK lD K) N a b c d) (by kernel_rfl)
def FR N d a b c (K:KT J):=vB 0 lD K (bB.Z7 N d a b c (λa b c=>K .nrm (fU a b c)) (λe=>K .ret (dc e))) (FQ N d a b c _) (by kernel_rfl)
def FS N a b c (K:KT J):=vQ (λk=>bB.Z6 N a b c k) (FN N a b c _) (fT λd a b c=>FR N d a b c K)
def FT N a b c (K:KT J):fD N 39 (fU a b c) gK K =
 bB.Z12 N a b c (λd a b c=>K .nrm (eO d a b c)):=by kernel_rfl
def FU N a b c d (K:KT J):fD N 279 (eO a b c d) gK K =
 bB.Z16 N a b c d (λa b c d=>K .nrm (eO a b c d)) (K (.exit 2) jP):=by kernel_rfl
def FV N a b c d (K:KT J):fD N 2199 (eO a b c d) wM K =
 bB.Z20 N a b c d (λa e b c d=>K .nrm (nR a e b c d)):=by kernel_rfl
def FW N a e b c d (K:KT J):fD N 9367 (nR a e b c d) wM K =
 bB.Z23 N a e b c d (λa e b c d=>K .nrm (nR a e b c d)) (λa b c d=>K (.exit 4) (eO a b c d)) (λf=>K .ret (dc f)):=by kernel_rfl
def FX N (K:KT J):=iF K (bB.Z22L N (λa b c d=>K (.exit 4) (eO a b c d)) (λe=>K .ret (dc e))) (λa f b c d k=>bB.Z23 N a f b c d k (λa b c d=>K (.exit 4) (eO a b c d)) (λe=>K .ret (dc e))) (λF a f b c d=>FW N a f b c d _) (by kernel_rfl)
def FY N a b c d e (K:KT J):=vL (nR a b c d e) (FX N (jK gK K) N a b c d e) (by kernel_rfl)
def FZ N a e b c d (K:KT J):=vB 4 gK K (bB.Z21 N a e b c d (λa b c d=>K .nrm (eO a b c d)) (λf=>K .ret (dc f))) (FY N a e b c d _) (by kernel_rfl)
def F0 N a b c d (K:KT J):=vQ (λk=>bB.Z20 N a b c d k) (FV N a b c d _) (dB λa e b c d=>FZ N a e b c d K)
def F1 N a b c d (K:KT J):=vB 3 gK K (bB.Z18 N a b c d (λa b c d=>K .nrm (eO a b c d)) (λe=>K .ret (dc e))) (F0 N a b c d _) (by kernel_rfl)
def F2 N a b c d (K:KT J):fD N 919 (eO a b c d) gK K =
 bB.Z24 N a b c d (λa b c d=>K .nrm (eO a b c d)):=by kernel_rfl
def F3 N a b c d (K:KT J):=vQ (λk=>bB.Z18 N a b c d k (λe=>K .ret (dc e))) (F1 N a b c d _) (fT λa b c d=>F2 N a b c d K)
def F4 N a b c d (K:KT J):=vQ (λk=>bB.Z16 N a b c d k (K (.exit 2) jP)) (FU N a b c d _) (fT λa b c d=>F3 N a b c d K)
def F5 N (K:KT J):=q8 K (bB.Z14L N (K (.exit 2) jP) (λa=>K .ret (dc a))) (λb c d e k=>bB.Z15 N b c d e k (K (.exit 2) jP) (λa=>K .ret (dc a))) (λF b c d e=>F4 N b c d e _) (by kernel_rfl)
def F6 N a b c d (K:KT J):=vL (eO a b c d) (F5 N (jK r9 K) N a b c d) (by kernel_rfl)
def F7 N a b c d (K:KT J):=vB 2 r9 K (bB.Z13 N a b c d (K .nrm jP) (λe=>K .ret (dc e))) (F6 N a b c d _) (by kernel_rfl)
def F8 N a b c (K:KT J):=vQ (λk=>bB.Z12 N a b c k) (FT N a b c _) (fT λd a b c=>F7 N d a b c K)
def F9 N  (K:KT J):fD N 31 jP FH K =
 bB.Z25 N (λa=>K .ret (dc a)):=by kernel_rfl
def Ga N a b c (K:KT J):=vQ (λk=>bB.Z11 N a b c k (λd=>K .ret (dc d))) (F8 N a b c _) (F9 N K)
def Gb N a b c (K:KT J):=vQ (λk=>bB.Z5 N a b c k (λd=>K .ret (dc d))) (FS N a b c _) (cM λa b c=>Ga N a b c K)
def Gc N a b c (K:KT J):=vQ (λk=>bB.Z3 N a b c k (λd=>K .ret (dc d))) (FM N a b c _) (cM λa b c=>Gb N a b c K)
def Gd N a (K:KT J):=vQ (λk=>bB.Z1 N a k) (FL N a _) (cM λb c d=>Gc N b c d K)
def Ge(h:bB.Spec):ao Try.prog 74 r8 :=
 a7 Try.func74 a8 FG (λN X K=>Gd N X.1 K) (by kernel_rfl) λX hb hp=>by obtain⟨a,_⟩:=X;obtain⟨N,h⟩:=h a hb.1;exact⟨N,Eq.trans (by kernel_rfl) (h N (Nat.le_refl N))⟩
def Gf:ao Try.prog 74 r8:=Ge bB.ok
def wN:aR:=⟨[⟨.sl 3 (.int .i64),false,false⟩,⟨.int .i64,false,false⟩],[⟨.bool,false,false⟩]⟩
def sa:aH:=⟨wN,none,λX=>((),((cK.g X.1 X.2.1),()))⟩
def wO:Gm:=aY
def Gg:an Try.prog wO:=an.nil
def Gh:aa:=⟨[],[],[],[],[]⟩
def Gi(a:LI)(b:Int):St:=aU wN.ps (a,(b,()))
def wP(a:LI)(b:Int):St:=am [(0,.c (.sn 3 tI a none)),(1,xi b)] [] []
def Gj:aa:=⟨[0,1],[],[],[],[]⟩
def nS(a:LI)(b d:Int):St:=am [(0,.c (.sn 3 tI a none)),(1,xi b),(5,xi d)] [] []
def wQ:aa:=⟨[0,1,5],[],[],[],[]⟩
def lE :St:=am [] [] []
def sb:aa:=⟨[],[],[],[],[]⟩
def jQ(a:Bool):St:=am [(4,xB a)] [] []
def Gk:aa:=⟨[4],[],[],[],[]⟩
def Gl:Nat->Option aa:=aw [(0,sb),(1000000,Gk)]
abbrev nT{J:Type}(N n:Nat)(U:St)(l:aa)(K:KT J):Option J:=ah wO aZ Gl N (aT 99 (a6 Try.f129) n) .n U (aq (some l) K)
def Gn N a b (K:KT J):nT N 2 (Gi a b) Gj K =
 cK.Z1 N a b (λa b=>K .nrm (wP a b)):=by kernel_rfl
def Gp N a b (K:KT J):nT N 9 (wP a b) wQ K =
 cK.Z4 N a b (λa b c=>K .nrm (nS a b c)):=by kernel_rfl
def Gq N a b c (K:KT J):nT N 37 (nS a b c) wQ K =
 cK.Z7 N a b c (λa b c=>K .nrm (nS a b c)) (K (.exit 0) lE) (λd=>K .ret (jQ d)):=by kernel_rfl
def Gr N (K:KT J):=dU K (cK.Z6L N (K (.exit 0) lE) (λa=>K .ret (jQ a))) (λb c d k=>cK.Z7 N b c d k (K (.exit 0) lE) (λa=>K .ret (jQ a))) (λF b c d=>Gq N b c d _) (by kernel_rfl)
def Gs N a b c (K:KT J):=vL (nS a b c) (Gr N (jK sb K) N a b c) (by kernel_rfl)
def Gt N a b c (K:KT J):=vB 0 sb K (cK.Z5 N a b c (K .nrm lE) (λd=>K .ret (jQ d))) (Gs N a b c _) (by kernel_rfl)
def Gu N a b (K:KT J):=vQ (λk=>cK.Z4 N a b k) (Gp N a b _) (cM λa b c=>Gt N a b c K)
def Gv N  (K:KT J):nT N 7 lE Gh K =
 cK.Z8 N (λa=>K .ret (jQ a)):=by kernel_rfl
def Gw N a b (K:KT J):=vQ (λk=>cK.Z3 N a b k (λc=>K .ret (jQ c))) (Gu N a b _) (Gv N K)
def Gx N a b (K:KT J):=vQ (λk=>cK.Z1 N a b k) (Gn N a b _) (bU λa b=>Gw N a b K)
def Gy(h:cK.Spec):ao Try.prog 129 sa :=
 a7 Try.func129 a8 Gg (λN X K=>Gx N X.1 X.2.1 K) (by kernel_rfl) λX hb hp=>by obtain⟨a,b,_⟩:=X;obtain⟨N,h⟩:=h a b hb.1;exact⟨N,Eq.trans (by kernel_rfl) (h N (Nat.le_refl N))⟩
def Gz:ao Try.prog 129 sa:=Gy cK.ok
def wR:aR:=⟨[⟨.pair (.int .i64) (.pair (.int .i64) (.sl 3 (.int .i64))),true,false⟩,⟨.int .i64,false,false⟩],[⟨.sl 3 (.int .i64),false,false⟩,⟨.sl 3 (.int .i64),false,false⟩]⟩
def sc:aH:=⟨wR,(some λX=>bq.P X.1 X.2.1),λX=>((),((bq.g X.1 X.2.1).1,((bq.g X.1 X.2.1).2,())))⟩
def wS:Gm:=aQ (aQ aY 80 lC) 129 sa
def GA:an Try.prog wS:=((an.nil).add r7 (by kernel_rfl)).add Gz (by kernel_rfl)
def GB:aa:=⟨[],[],[],[],[]⟩
def GC(a:MT)(b:Int):St:=aU wR.ps (a,(b,()))
def wT(a b c:Int)(d:LI):St:=am [(1,xi a),(2,xb 2)] [(2,(30,[yi b,yi c,.sn 3 tI d none]))] []
def GD:aa:=⟨[1,2],[2],[],[],[]⟩
def wU(a:LI)(b c d:Int)(e:LI):St:=am [(1,xi b),(2,xb 2),(6,xo 1000384)] [(2,(30,[yi c,yi d,.sn 3 tI e none]))] [(1000384,(⟨3,.int .i64,a,true,false⟩:ac))]
def GE:aa:=⟨[1,2,6],[2],[],[],[(⟨false,6,0⟩,1000384)]⟩
def wV(a b:LI)(c d:Int)(e:LI):St:=am [(2,xb 2),(6,xo 1000384),(7,xo 1000448)] [(2,(30,[yi c,yi d,.sn 3 tI e none]))] [(1000384,(⟨3,.int .i64,a,true,false⟩:ac)),(1000448,(⟨3,.int .i64,b,true,false⟩:ac))]
def GF:aa:=⟨[2,6,7],[2],[],[],[(⟨false,6,0⟩,1000384),(⟨false,7,0⟩,1000448)]⟩
def eQ(a b:LI)(c d e:Int)(f:LI):St:=am [(2,xb 2),(6,xo 1000384),(7,xo 1000448),(8,xi c)] [(2,(30,[yi d,yi e,.sn 3 tI f none]))] [(1000384,(⟨3,.int .i64,a,true,false⟩:ac)),(1000448,(⟨3,.int .i64,b,true,false⟩:ac))]
def gL:aa:=⟨[2,6,7,8],[2],[],[],[(⟨false,6,0⟩,1000384),(⟨false,7,0⟩,1000448)]⟩
def nU(a b:LI)(c d e f:Int)(g:LI):St:=am [(2,xb 2),(6,xo 1000384),(7,xo 1000448),(8,xi c),(9,xi d)] [(2,(30,[yi e,yi f,.sn 3 tI g none]))] [(1000384,(⟨3,.int .i64,a,true,false⟩:ac)),(1000448,(⟨3,.int .i64,b,true,false⟩:ac))]
def wW:aa:=⟨[2,6,7,8,9],[2],[],[],[(⟨false,6,0⟩,1000384),(⟨false,7,0⟩,1000448)]⟩
def jR(a b:LI):St:=am [(6,xo 1000384),(7,xo 1000448)] [] [(1000384,(⟨3,.int .i64,a,true,false⟩:ac)),(1000448,(⟨3,.int .i64,b,true,false⟩:ac))]
def sd:aa:=⟨[6,7],[],[],[],[(⟨false,6,0⟩,1000384),(⟨false,7,0⟩,1000448)]⟩
def GG(a b:LI):St:=am [(4,xo 1000256),(5,xo 1000320)] [] [(1000256,(⟨3,.int .i64,a,true,false⟩:ac)),(1000320,(⟨3,.int .i64,b,true,false⟩:ac))]
def GH:aa:=⟨[4,5],[],[],[],[(⟨false,4,0⟩,1000256),(⟨false,5,0⟩,1000320)]⟩
def GI:Nat->Option aa:=aw [(2,gL),(1,gL),(0,sd),(1000000,GH)]
abbrev fV{J:Type}(N n:Nat)(U:St)(l:aa)(K:KT J):Option J:=ah wS aZ GI N (aT 99 (a6 Try.f118) n) .n U (aq (some l) K)
def GJ N b a (K:KT J):fV N 2 (GC b a) GD K =
 bq.Z1 N b a (λa c d e=>K .nrm (wT a c d e)):=by kernel_rfl
def GK N a b c d (K:KT J):fV N 5 (wT a b c d) GE K =
 bq.Z3 N a b c d (λe a b c d=>K .nrm (wU e a b c d)):=by kernel_rfl
def GL N a e b c d (K:KT J):fV N 11 (wU a e b c d) GF K =
 bq.Z5 N a e b c d (λa f b c d=>K .nrm (wV a f b c d)):=by kernel_rfl
def GM N a b c d e (K:KT J):fV N 39 (wV a b c d e) gL K =
 bq.Z8 N a b c d e (λa b f c d e=>K .nrm (eQ a b f c d e)):=by kernel_rfl
def GN N a b c d e f (K:KT J):fV N 279 (eQ a b c d e f) gL K =
 bq.Z12 N a b c d e f (λa b c d e f=>K .nrm (eQ a b c d e f)) (λa b=>K (.exit 0) (jR a b)):=by kernel_rfl
def GO N a b c d e f (K:KT J):fV N 2199 (eQ a b c d e f) wW K =
 bq.Z16 N a b c d e f (λa b c g d e f=>K .nrm (nU a b c g d e f)):=by kernel_rfl
def GP N a b c g d e f (K:KT J):fV N 9367 (nU a b c g d e f) wW K =
 bq.Z19 N a b c g d e f (λa b c g d e f=>K .nrm (nU a b c g d e f)) (λa b c d e f=>K (.exit 2) (eQ a b c d e f)):=by kernel_rfl
def GQ N (K:KT J):=u3 K (bq.Z18L N (λa b c d e f=>K (.exit 2) (eQ a b c d e f))) (λa b c g d e f k=>bq.Z19 N a b c g d e f k (λa b c d e f=>K (.exit 2) (eQ a b c d e f))) (λF a b c g d e f=>GP N a b c g d e f _) (by kernel_rfl)
def GR N a b c d e f g (K:KT J):=vL (nU a b c d e f g) (GQ N (jK gL K) N a b c d e f g) (by kernel_rfl)
def GS N a b c g d e f (K:KT J):=vB 2 gL K (bq.Z17 N a b c g d e f (λa b c d e f=>K .nrm (eQ a b c d e f))) (GR N a b c g d e f _) (by kernel_rfl)
def GT N a b c d e f (K:KT J):=vQ (λk=>bq.Z16 N a b c d e f k) (GO N a b c d e f _) (ld λa b c g d e f=>GS N a b c g d e f K)
def GU N a b c d e f (K:KT J):=vB 1 gL K (bq.Z14 N a b c d e f (λa b c d e f=>K .nrm (eQ a b c d e f))) (GT N a b c d e f _) (by kernel_rfl)
def GV N a b c d e f (K:KT J):fV N 919 (eQ a b c d e f) gL K =
 bq.Z20 N a b c d e f (λa b c d e f=>K .nrm (eQ a b c d e f)):=by kernel_rfl
def GW N a b c d e f (K:KT J):=vQ (λk=>bq.Z14 N a b c d e f k) (GU N a b c d e f _) (jz λa b c d e f=>GV N a b c d e f K)
def GX N a b c d e f (K:KT J):=vQ (λk=>bq.Z12 N a b c d e f k (λa b=>K (.exit 0) (jR a b))) (GN N a b c d e f _) (jz λa b c d e f=>GW N a b c d e f K)
def GY N (K:KT J):=nk K (bq.Z10L N (λa b=>K (.exit 0) (jR a b))) (λa b c d e f k=>bq.Z11 N a b c d e f k (λa b=>K (.exit 0) (jR a b))) (λF a b c d e f=>GX N a b c d e f _) (by kernel_rfl)
def GZ N a b c d e f (K:KT J):=vL (eQ a b c d e f) (GY N (jK sd K) N a b c d e f) (by kernel_rfl)
def G0 N a b c d e f (K:KT J):=vB 0 sd K (bq.Z9 N a b c d e f (λa b=>K .nrm (jR a b))) (GZ N a b c d e f _) (by kernel_rfl)
def G1 N a b c d e (K:KT J):=vQ (λk=>bq.Z8 N a b c d e k) (GM N a b c d e _) (jz λa b f c d e=>G0 N a b f c d e K)
def G3 N a b (K:KT J):fV N 31 (jR a b) GB K =
 bq.Z21 N a b (λc d=>K .ret (GG c d)):=by kernel_rfl
def G4 N a b c d e (K:KT J):=vQ (λk=>bq.Z7 N a b c d e k) (G1 N a b c d e _) (bU λa b=>G3 N a b K)
def G5 N a e b c d (K:KT J):=vQ (λk=>bq.Z5 N a e b c d k) (GL N a e b c d _) (dB λa f b c d=>G4 N a f b c d K)
def G6 N a b c d (K:KT J):=vQ (λk=>bq.Z3 N a b c d k) (GK N a b c d _) (dB λe a b c d=>G5 N e a b c d K)
def G7 N b a (K:KT J):=vQ (λk=>bq.Z1 N b a k) (GJ N b a _) (fT λa c d e=>G6 N a c d e K)
def G8(h:bq.Spec):ao Try.prog 118 sc :=
 a7 Try.func118 a8 GA (λN X K=>G7 N X.1 X.2.1 K) (by kernel_rfl) λX hb hp=>by obtain⟨a,b,_⟩:=X;obtain⟨N,h⟩:=h a b hb.1 hp;exact⟨N,Eq.trans (by kernel_rfl) (h N (Nat.le_refl N))⟩
def G9:ao Try.prog 118 sc:=G8 bq.ok
def wX:aR:=⟨[⟨.int .i64,false,false⟩],[⟨.int .i64,false,false⟩]⟩
def se:aH:=⟨wX,none,λX=>((),((dL.g X.1),()))⟩
def wY:Gm:=aY
def Ha:an Try.prog wY:=an.nil
def Hb:aa:=⟨[],[],[],[],[]⟩
def Hc(a:Int):St:=aU wX.ps (a,())
def He(a:Int):St:=am [(2,xi a)] [] []
def Hf:aa:=⟨[2],[],[],[],[]⟩
def Hg:Nat->Option aa:=aw [(1000000,Hf)]
abbrev Hh{J:Type}(N n:Nat)(U:St)(l:aa)(K:KT J):Option J:=ah wY aZ Hg N (aT 99 (a6 Try.f119) n) .n U (aq (some l) K)
def Hi N a (K:KT J):Hh N 1 (Hc a) Hb K =
 dL.Z0 N a (λb=>K .ret (He b)):=by kernel_rfl
def Hj(h:dL.Spec):ao Try.prog 119 se :=
 a7 Try.func119 a8 Ha (λN X K=>Hi N X.1 K) (by kernel_rfl) λX hb hp=>by obtain⟨a,_⟩:=X;obtain⟨N,h⟩:=h a;exact⟨N,Eq.trans (by kernel_rfl) (h N (Nat.le_refl N))⟩
def Hl:ao Try.prog 119 se:=Hj dL.ok
def wZ:aR:=⟨[⟨.int .i64,false,false⟩,⟨.int .i64,false,false⟩],[⟨.int .i64,false,false⟩]⟩
def sf:aH:=⟨wZ,(some λX=>cV.P X.1 X.2.1),λX=>((),((cV.g X.1 X.2.1),()))⟩
def w6:Gm:=aY
def Hm:an Try.prog w6:=an.nil
def Hn:aa:=⟨[],[],[],[],[]⟩
def Ho(a b:Int):St:=aU wZ.ps (a,(b,()))
def nV(a b:Int):St:=am [(0,xi a),(1,xi b)] [] []
def w7:aa:=⟨[0,1],[],[],[],[]⟩
def lF(a:Int):St:=am [(0,xi a)] [] []
def sh:aa:=⟨[0],[],[],[],[]⟩
def Hp(a:Int):St:=am [(4,xi a)] [] []
def Hq:aa:=⟨[4],[],[],[],[]⟩
def Hr:Nat->Option aa:=aw [(0,sh),(1000000,Hq)]
abbrev sj{J:Type}(N n:Nat)(U:St)(l:aa)(K:KT J):Option J:=ah w6 aZ Hr N (aT 99 (a6 Try.f120) n) .n U (aq (some l) K)
def Hs N a b (K:KT J):sj N 2 (Ho a b) w7 K =
 cV.Z1 N a b (λa b=>K .nrm (nV a b)):=by kernel_rfl
def Ht N a b (K:KT J):sj N 17 (nV a b) w7 K =
 cV.Z5 N a b (λa b=>K .nrm (nV a b)) (λa=>K (.exit 0) (lF a)):=by kernel_rfl
def Hu N (K:KT J):=q7 K (cV.Z4L N (λa=>K (.exit 0) (lF a))) (λa b k=>cV.Z5 N a b k (λa=>K (.exit 0) (lF a))) (λF a b=>Ht N a b _) (by kernel_rfl)
def Hv N a b (K:KT J):=vL (nV a b) (Hu N (jK sh K) N a b) (by kernel_rfl)
def Hw N a b (K:KT J):=vB 0 sh K (cV.Z3 N a b (λa=>K .nrm (lF a))) (Hv N a b _) (by kernel_rfl)
def Hx N a (K:KT J):sj N 7 (lF a) Hn K =
 cV.Z6 N a (λb=>K .ret (Hp b)):=by kernel_rfl
def Hy N a b (K:KT J):=vQ (λk=>cV.Z3 N a b k) (Hw N a b _) (funext λa=>Hx N a K)
def Hz N a b (K:KT J):=vQ (λk=>cV.Z1 N a b k) (Hs N a b _) (bU λa b=>Hy N a b K)
def HA(h:cV.Spec):ao Try.prog 120 sf :=
 a7 Try.func120 a8 Hm (λN X K=>Hz N X.1 X.2.1 K) (by kernel_rfl) λX hb hp=>by obtain⟨a,b,_⟩:=X;obtain⟨N,h⟩:=h a b hp;exact⟨N,Eq.trans (by kernel_rfl) (h N (Nat.le_refl N))⟩
def HB:ao Try.prog 120 sf:=HA cV.ok
def w9:aR:=⟨[⟨.pair (.int .i64) (.pair (.int .i64) (.sl 3 (.int .i64))),true,false⟩],[⟨.sl 3 (.int .i64),false,false⟩,⟨.bool,false,false⟩]⟩
def sm:aH:=⟨w9,(some λX=>aI.P X.1),λX=>((),((aI.g X.1).1,((aI.g X.1).2,())))⟩
def xa:Gm:=aQ (aQ (aQ (aQ aY 80 lC) 118 sc) 119 se) 120 sf
def HC:an Try.prog xa:=((((an.nil).add r7 (by kernel_rfl)).add G9 (by kernel_rfl)).add Hl (by kernel_rfl)).add HB (by kernel_rfl)
def HD:aa:=⟨[],[],[],[],[]⟩
def HE(a:MT):St:=aU w9.ps (a,())
def xc(a b:Int)(c:LI):St:=am [(1,xb 1)] [(1,(30,[yi a,yi b,.sn 3 tI c none]))] []
def HF:aa:=⟨[1],[1],[],[],[]⟩
def gM(a:LI)(b c:Int)(d:LI):St:=am [(1,xb 1),(4,xo 1000256)] [(1,(30,[yi b,yi c,.sn 3 tI d none]))] [(1000256,(⟨3,.int .i64,a,true,false⟩:ac))]
def nW:aa:=⟨[1,4],[1],[],[],[(⟨false,4,0⟩,1000256)]⟩
def dD(a:LI)(b c d:Int)(e:LI):St:=am [(1,xb 1),(4,xo 1000256),(5,xi b)] [(1,(30,[yi c,yi d,.sn 3 tI e none]))] [(1000256,(⟨3,.int .i64,a,true,false⟩:ac))]
def fW:aa:=⟨[1,4,5],[1],[],[],[(⟨false,4,0⟩,1000256)]⟩
def fX(a b c:LI)(d e f:Int)(g:LI):St:=am [(1,xb 1),(4,xo 1000256),(5,xi d),(6,xo 1000384),(7,xo 1000448)] [(1,(30,[yi e,yi f,.sn 3 tI g none]))] [(1000256,(⟨3,.int .i64,a,true,false⟩:ac)),(1000384,(⟨3,.int .i64,b,true,false⟩:ac)),(1000448,(⟨3,.int .i64,c,true,false⟩:ac))]
def lG:aa:=⟨[1,4,5,6,7],[1],[],[],[(⟨false,4,0⟩,1000256),(⟨false,6,0⟩,1000384),(⟨false,7,0⟩,1000448)]⟩
def nX(a b c:LI)(d e f g:Int)(h:LI):St:=am [(1,xb 1),(4,xo 1000256),(5,xi d),(6,xo 1000384),(7,xo 1000448),(8,xi e)] [(1,(30,[yi f,yi g,.sn 3 tI h none]))] [(1000256,(⟨3,.int .i64,a,true,false⟩:ac)),(1000384,(⟨3,.int .i64,b,true,false⟩:ac)),(1000448,(⟨3,.int .i64,c,true,false⟩:ac))]
def xd:aa:=⟨[1,4,5,6,7,8],[1],[],[],[(⟨false,4,0⟩,1000256),(⟨false,6,0⟩,1000384),(⟨false,7,0⟩,1000448)]⟩
def xe(a b c:LI)(d e f g:Int)(h:LI):St:=am [(1,xb 1),(4,xo 1000256),(5,xi d),(6,xo 1000384),(7,xo 1000448),(9,xi e)] [(1,(30,[yi f,yi g,.sn 3 tI h none]))] [(1000256,(⟨3,.int .i64,a,true,false⟩:ac)),(1000384,(⟨3,.int .i64,b,true,false⟩:ac)),(1000448,(⟨3,.int .i64,c,true,false⟩:ac))]
def HG:aa:=⟨[1,4,5,6,7,9],[1],[],[],[(⟨false,4,0⟩,1000256),(⟨false,6,0⟩,1000384),(⟨false,7,0⟩,1000448)]⟩
def nY(a b c:LI)(d e f g h:Int)(i:LI):St:=am [(1,xb 1),(4,xo 1000256),(5,xi d),(6,xo 1000384),(7,xo 1000448),(9,xi e),(10,xi f)] [(1,(30,[yi g,yi h,.sn 3 tI i none]))] [(1000256,(⟨3,.int .i64,a,true,false⟩:ac)),(1000384,(⟨3,.int .i64,b,true,false⟩:ac)),(1000448,(⟨3,.int .i64,c,true,false⟩:ac))]
def xf:aa:=⟨[1,4,5,6,7,9,10],[1],[],[],[(⟨false,4,0⟩,1000256),(⟨false,6,0⟩,1000384),(⟨false,7,0⟩,1000448)]⟩
def lH(a b:LI)(c d e f:Int)(g:LI):St:=am [(1,xb 1),(4,xo 1000256),(5,xi c),(6,xo 1000384),(9,xi d)] [(1,(30,[yi e,yi f,.sn 3 tI g none]))] [(1000256,(⟨3,.int .i64,a,true,false⟩:ac)),(1000384,(⟨3,.int .i64,b,true,false⟩:ac))]
def so:aa:=⟨[1,4,5,6,9],[1],[],[],[(⟨false,4,0⟩,1000256),(⟨false,6,0⟩,1000384)]⟩
def nZ(a b:LI)(c d e f g:Int)(h:LI):St:=am [(1,xb 1),(4,xo 1000256),(5,xi c),(6,xo 1000384),(9,xi d),(11,xi e)] [(1,(30,[yi f,yi g,.sn 3 tI h none]))] [(1000256,(⟨3,.int .i64,a,true,false⟩:ac)),(1000384,(⟨3,.int .i64,b,true,false⟩:ac))]
def xg:aa:=⟨[1,4,5,6,9,11],[1],[],[],[(⟨false,4,0⟩,1000256),(⟨false,6,0⟩,1000384)]⟩
def eR(a:LI)(b c d:Int)(e:LI):St:=am [(1,xb 1),(4,xo 1000256),(12,xi b)] [(1,(30,[yi c,yi d,.sn 3 tI e none]))] [(1000256,(⟨3,.int .i64,a,true,false⟩:ac))]
def gN:aa:=⟨[1,4,12],[1],[],[],[(⟨false,4,0⟩,1000256)]⟩
def n0(a:LI)(b c d e:Int)(f:LI):St:=am [(1,xb 1),(4,xo 1000256),(12,xi b),(13,xi c)] [(1,(30,[yi d,yi e,.sn 3 tI f none]))] [(1000256,(⟨3,.int .i64,a,true,false⟩:ac))]
def xh:aa:=⟨[1,4,12,13],[1],[],[],[(⟨false,4,0⟩,1000256)]⟩
def jS(a:LI):St:=am [(4,xo 1000256)] [] [(1000256,(⟨3,.int .i64,a,true,false⟩:ac))]
def sq:aa:=⟨[4],[],[],[],[(⟨false,4,0⟩,1000256)]⟩
def fo(a:LI)(b:Bool):St:=am [(2,xo 1000128),(3,xB b)] [] [(1000128,(⟨3,.int .i64,a,true,false⟩:ac))]
def HH:aa:=⟨[2,3],[],[⟨⟨false,2,0⟩,30000000,3,.int .i64,true⟩],[],[(⟨false,2,0⟩,1000128)]⟩
def HI:Nat->Option aa:=aw [(2,lG),(4,so),(6,fW),(1,fW),(0,nW),(10,gN),(9,gN),(8,sq),(1000000,HH)]
abbrev cJ{J:Type}(N n:Nat)(U:St)(l:aa)(K:KT J):Option J:=ah xa aZ HI N (aT 99 (a6 Try.f94) n) .n U (aq (some l) K)
def HJ N a (K:KT J):cJ N 2 (HE a) HF K =
 aI.Z1 N a (λb c d=>K .nrm (xc b c d)):=by kernel_rfl
def HK N a b c (K:KT J):cJ N 5 (xc a b c) nW K =
 aI.Z3 N a b c (λd a b c=>K .nrm (gM d a b c)):=by kernel_rfl
def HL N a b c d (K:KT J):cJ N 19 (gM a b c d) fW K =
 aI.Z6 N a b c d (λa e b c d=>K .nrm (dD a e b c d)):=by kernel_rfl
def HM N a e b c d (K:KT J):cJ N 139 (dD a e b c d) fW K =
 aI.Z10 N a e b c d (λa e b c d=>K .nrm (dD a e b c d)) (λa b c d=>K (.exit 0) (gM a b c d)):=by kernel_rfl
def HN N a b c d e (K:KT J):cJ N 1099 (dD a b c d e) fW K =
 aI.Z14 N a b c d e (λa b c d e=>K .nrm (dD a b c d e)) (λa b c d e=>K (.exit 1) (dD a b c d e)):=by kernel_rfl
def HO N a b c d e (K:KT J):cJ N 2635 (dD a b c d e) lG K =
 aI.Z16 N a b c d e (λa f g b c d e=>K .nrm (fX a f g b c d e)):=by kernel_rfl
def HP N a b c d e f g (K:KT J):cJ N 5707 (fX a b c d e f g) lG K =
 aI.Z18 N a b c d e f g (λa b c d e f g=>K .nrm (fX a b c d e f g)):=by kernel_rfl
def HQ N a b c d e f g (K:KT J):cJ N 20043 (fX a b c d e f g) xd K =
 aI.Z21 N a b c d e f g (λa b c d h e f g=>K .nrm (nX a b c d h e f g)):=by kernel_rfl
def HR N a b c d h e f g (K:KT J):cJ N 77387 (nX a b c d h e f g) xd K =
 aI.Z24 N a b c d h e f g (λa b c d h e f g=>K .nrm (nX a b c d h e f g)) (λa b c d e f g=>K (.exit 2) (fX a b c d e f g)):=by kernel_rfl
def HS N (K:KT J):=nn K (aI.Z23L N (λa b c d e f g=>K (.exit 2) (fX a b c d e f g))) (λa b c d h e f g k=>aI.Z24 N a b c d h e f g k (λa b c d e f g=>K (.exit 2) (fX a b c d e f g))) (λF a b c d h e f g=>HR N a b c d h e f g _) (by kernel_rfl)
def HT N a b c d e f g h (K:KT J):=vL (nX a b c d e f g h) (HS N (jK lG K) N a b c d e f g h) (by kernel_rfl)
def HU N a b c d h e f g (K:KT J):=vB 2 lG K (aI.Z22 N a b c d h e f g (λa b c d e f g=>K .nrm (fX a b c d e f g))) (HT N a b c d h e f g _) (by kernel_rfl)
def HV N a b c d e f g (K:KT J):=vQ (λk=>aI.Z21 N a b c d e f g k) (HQ N a b c d e f g _) (jA λa b c d h e f g=>HU N a b c d h e f g K)
def HW N a b c d e f g (K:KT J):cJ N 24139 (fX a b c d e f g) HG K =
 aI.Z26 N a b c d e f g (λa b c d h e f g=>K .nrm (xe a b c d h e f g)):=by kernel_rfl
def HX N a b c d e f g h (K:KT J):cJ N 81483 (xe a b c d e f g h) xf K =
 aI.Z29 N a b c d e f g h (λa b c d e i f g h=>K .nrm (nY a b c d e i f g h)):=by kernel_rfl
def HY N a b h c d i e f g (K:KT J):cJ N 310859 (nY a b h c d i e f g) xf K =
 aI.Z32 N a b h c d i e f g (λa b h c d i e f g=>K .nrm (nY a b h c d i e f g)) (λa b c d e f g=>K (.exit 4) (lH a b c d e f g)):=by kernel_rfl
def HZ N (K:KT J):=u4 K (aI.Z31L N (λa b c d e f g=>K (.exit 4) (lH a b c d e f g))) (λa b h c d i e f g k=>aI.Z32 N a b h c d i e f g k (λa b c d e f g=>K (.exit 4) (lH a b c d e f g))) (λF a b h c d i e f g=>HY N a b h c d i e f g _) (by kernel_rfl)
def H0 N a b c d e f g h i (K:KT J):=vL (nY a b c d e f g h i) (HZ N (jK so K) N a b c d e f g h i) (by kernel_rfl)
def H1 N a b h c d i e f g (K:KT J):=vB 4 so K (aI.Z30 N a b h c d i e f g (λa b c d e f g=>K .nrm (lH a b c d e f g))) (H0 N a b h c d i e f g _) (by kernel_rfl)
def H2 N a b c d e f g h (K:KT J):=vQ (λk=>aI.Z29 N a b c d e f g h k) (HX N a b c d e f g h _) (iE λa b c d e i f g h=>H1 N a b c d e i f g h K)
def H3 N a b c d e f g (K:KT J):cJ N 97867 (lH a b c d e f g) xg K =
 aI.Z34 N a b c d e f g (λa b c d h e f g=>K .nrm (nZ a b c d h e f g)):=by kernel_rfl
def H4 N a f b g h c d e (K:KT J):cJ N 327243 (nZ a f b g h c d e) xg K =
 aI.Z37 N a f b g h c d e (λa f b g h c d e=>K .nrm (nZ a f b g h c d e)) (λa b c d e=>K (.exit 6) (dD a b c d e)):=by kernel_rfl
def H5 N (K:KT J):=nn K (aI.Z36L N (λa b c d e=>K (.exit 6) (dD a b c d e))) (λa f b g h c d e k=>aI.Z37 N a f b g h c d e k (λa b c d e=>K (.exit 6) (dD a b c d e))) (λF a f b g h c d e=>H4 N a f b g h c d e _) (by kernel_rfl)
def H6 N a b c d e f g h (K:KT J):=vL (nZ a b c d e f g h) (H5 N (jK fW K) N a b c d e f g h) (by kernel_rfl)
def H7 N a f b g h c d e (K:KT J):=vB 6 fW K (aI.Z35 N a f b g h c d e (λa b c d e=>K .nrm (dD a b c d e))) (H6 N a f b g h c d e _) (by kernel_rfl)
def H8 N a b c d e f g (K:KT J):=vQ (λk=>aI.Z34 N a b c d e f g k) (H3 N a b c d e f g _) (jA λa b c d h e f g=>H7 N a b c d h e f g K)
def H9 N a b h c d e f g (K:KT J):=vQ (λk=>aI.Z28 N a b h c d e f g k) (H2 N a b h c d e f g _) (ld λa b c d e f g=>H8 N a b c d e f g K)
def Ia N a b c d e f g (K:KT J):=vQ (λk=>aI.Z26 N a b c d e f g k) (HW N a b c d e f g _) (jA λa b c d h e f g=>H9 N a b c d h e f g K)
def Ib N a b c d e f g (K:KT J):=vQ (λk=>aI.Z20 N a b c d e f g k) (HV N a b c d e f g _) (ld λa b c d e f g=>Ia N a b c d e f g K)
def Ic N a b c d e f g (K:KT J):=vQ (λk=>aI.Z18 N a b c d e f g k) (HP N a b c d e f g _) (ld λa b c d e f g=>Ib N a b c d e f g K)
def Id N a b c d e (K:KT J):=vQ (λk=>aI.Z16 N a b c d e k) (HO N a b c d e _) (ld λa f g b c d e=>Ic N a f g b c d e K)
def Ie N a b c d e (K:KT J):=vQ (λk=>aI.Z14 N a b c d e k (λa b c d e=>K (.exit 1) (dD a b c d e))) (HN N a b c d e _) (dB λa b c d e=>Id N a b c d e K)
def If N a b c d e (K:KT J):=vB 1 fW K (aI.Z12 N a b c d e (λa b c d e=>K .nrm (dD a b c d e))) (Ie N a b c d e _) (by kernel_rfl)
def Ig N a b c d e (K:KT J):cJ N 459 (dD a b c d e) fW K =
 aI.Z38 N a b c d e (λa b c d e=>K .nrm (dD a b c d e)):=by kernel_rfl
def Ih N a b c d e (K:KT J):=vQ (λk=>aI.Z12 N a b c d e k) (If N a b c d e _) (dB λa b c d e=>Ig N a b c d e K)
def Ii N a e b c d (K:KT J):=vQ (λk=>aI.Z10 N a e b c d k (λa b c d=>K (.exit 0) (gM a b c d))) (HM N a e b c d _) (dB λa e b c d=>Ih N a e b c d K)
def Ij N (K:KT J):=iF K (aI.Z8L N (λa b c d=>K (.exit 0) (gM a b c d))) (λa e b c d k=>aI.Z9 N a e b c d k (λa b c d=>K (.exit 0) (gM a b c d))) (λF a e b c d=>Ii N a e b c d _) (by kernel_rfl)
def Ik N a b c d e (K:KT J):=vL (dD a b c d e) (Ij N (jK nW K) N a b c d e) (by kernel_rfl)
def Il N a e b c d (K:KT J):=vB 0 nW K (aI.Z7 N a e b c d (λa b c d=>K .nrm (gM a b c d))) (Ik N a e b c d _) (by kernel_rfl)
def Im N a b c d (K:KT J):=vQ (λk=>aI.Z6 N a b c d k) (HL N a b c d _) (dB λa e b c d=>Il N a e b c d K)
def In N a b c d (K:KT J):cJ N 39 (gM a b c d) gN K =
 aI.Z41 N a b c d (λa e b c d=>K .nrm (eR a e b c d)):=by kernel_rfl
def Io N a b c d e (K:KT J):cJ N 279 (eR a b c d e) gN K =
 aI.Z45 N a b c d e (λa b c d e=>K .nrm (eR a b c d e)) (λa=>K (.exit 8) (jS a)):=by kernel_rfl
def Ip N a b c d e (K:KT J):cJ N 2199 (eR a b c d e) xh K =
 aI.Z49 N a b c d e (λa b f c d e=>K .nrm (n0 a b f c d e)):=by kernel_rfl
def Iq N a b f c d e (K:KT J):cJ N 9367 (n0 a b f c d e) xh K =
 aI.Z52 N a b f c d e (λa b f c d e=>K .nrm (n0 a b f c d e)) (λa b c d e=>K (.exit 10) (eR a b c d e)) (λg h=>K .ret (fo g h)):=by kernel_rfl
def Ir N (K:KT J):=nk K (aI.Z51L N (λa b c d e=>K (.exit 10) (eR a b c d e)) (λf g=>K .ret (fo f g))) (λa b h c d e k=>aI.Z52 N a b h c d e k (λa b c d e=>K (.exit 10) (eR a b c d e)) (λf g=>K .ret (fo f g))) (λF a b h c d e=>Iq N a b h c d e _) (by kernel_rfl)
def Is N a b c d e f (K:KT J):=vL (n0 a b c d e f) (Ir N (jK gN K) N a b c d e f) (by kernel_rfl)
def It N a b f c d e (K:KT J):=vB 10 gN K (aI.Z50 N a b f c d e (λa b c d e=>K .nrm (eR a b c d e)) (λg h=>K .ret (fo g h))) (Is N a b f c d e _) (by kernel_rfl)
def Iu N a b c d e (K:KT J):=vQ (λk=>aI.Z49 N a b c d e k) (Ip N a b c d e _) (jz λa b f c d e=>It N a b f c d e K)
def Iv N a b c d e (K:KT J):=vB 9 gN K (aI.Z47 N a b c d e (λa b c d e=>K .nrm (eR a b c d e)) (λf g=>K .ret (fo f g))) (Iu N a b c d e _) (by kernel_rfl)
def Iw N a b c d e (K:KT J):cJ N 919 (eR a b c d e) gN K =
 aI.Z53 N a b c d e (λa b c d e=>K .nrm (eR a b c d e)):=by kernel_rfl
def Ix N a b c d e (K:KT J):=vQ (λk=>aI.Z47 N a b c d e k (λf g=>K .ret (fo f g))) (Iv N a b c d e _) (dB λa b c d e=>Iw N a b c d e K)
def Iy N a b c d e (K:KT J):=vQ (λk=>aI.Z45 N a b c d e k (λa=>K (.exit 8) (jS a))) (Io N a b c d e _) (dB λa b c d e=>Ix N a b c d e K)
def Iz N (K:KT J):=iF K (aI.Z43L N (λa=>K (.exit 8) (jS a)) (λb c=>K .ret (fo b c))) (λa d e f g k=>aI.Z44 N a d e f g k (λa=>K (.exit 8) (jS a)) (λb c=>K .ret (fo b c))) (λF a d e f g=>Iy N a d e f g _) (by kernel_rfl)
def IA N a b c d e (K:KT J):=vL (eR a b c d e) (Iz N (jK sq K) N a b c d e) (by kernel_rfl)
def IB N a b c d e (K:KT J):=vB 8 sq K (aI.Z42 N a b c d e (λa=>K .nrm (jS a)) (λf g=>K .ret (fo f g))) (IA N a b c d e _) (by kernel_rfl)
def IC N a b c d (K:KT J):=vQ (λk=>aI.Z41 N a b c d k) (In N a b c d _) (dB λa e b c d=>IB N a e b c d K)
def ID N a (K:KT J):cJ N 31 (jS a) HD K =
 aI.Z54 N a (λb c=>K .ret (fo b c)):=by kernel_rfl
def IE N a b c d (K:KT J):=vQ (λk=>aI.Z40 N a b c d k (λe f=>K .ret (fo e f))) (IC N a b c d _) (funext λa=>ID N a K)
def IF N a b c d (K:KT J):=vQ (λk=>aI.Z5 N a b c d k) (Im N a b c d _) (fT λa b c d=>IE N a b c d K)
def IG N a b c (K:KT J):=vQ (λk=>aI.Z3 N a b c k) (HK N a b c _) (fT λd a b c=>IF N d a b c K)
def IH N a (K:KT J):=vQ (λk=>aI.Z1 N a k) (HJ N a _) (cM λb c d=>IG N b c d K)
def II(h:aI.Spec):ao Try.prog 94 sm :=
 a7 Try.func94 a8 HC (λN X K=>IH N X.1 K) (by kernel_rfl) λX hb hp=>by obtain⟨a,_⟩:=X;obtain⟨N,h⟩:=h a hb.1 hp;exact⟨N,Eq.trans (by kernel_rfl) (h N (Nat.le_refl N))⟩
def IJ:ao Try.prog 94 sm:=II aI.ok
def xj:aR:=⟨[⟨.pair (.int .i64) (.pair (.int .i64) (.sl 3 (.int .i64))),true,false⟩],[⟨.bool,false,false⟩]⟩
def sr:aH:=⟨xj,none,λX=>((),((eU.g X.1),()))⟩
def xk:Gm:=aQ (aQ aY 74 r8) 94 sm
def IK:an Try.prog xk:=((an.nil).add Gf (by kernel_rfl)).add IJ (by kernel_rfl)
def IL:aa:=⟨[],[],[],[],[]⟩
def IM(a:MT):St:=aU xj.ps (a,())
def IN(a:Bool):St:=am [(2,xB a)] [] []
def zIO:aa:=⟨[2],[],[],[],[]⟩
def IP:Nat->Option aa:=aw [(1000000,zIO)]
abbrev IQ{J:Type}(N n:Nat)(U:St)(l:aa)(K:KT J):Option J:=ah xk aZ IP N (aT 99 (a6 Try.f51) n) .n U (aq (some l) K)
def IR N a (K:KT J):IQ N 1 (IM a) IL K =
 eU.Z0 N a (λb=>K .ret (IN b)):=by kernel_rfl
def IS(h:eU.Spec):ao Try.prog 51 sr :=
 a7 Try.func51 a8 IK (λN X K=>IR N X.1 K) (by kernel_rfl) λX hb hp=>by obtain⟨a,_⟩:=X;obtain⟨N,h⟩:=h a hb.1;exact⟨N,Eq.trans (by kernel_rfl) (h N (Nat.le_refl N))⟩
def IT:ao Try.prog 51 sr:=IS eU.ok
def xl:aR:=⟨[⟨.sl 3 (.int .i64),false,false⟩,⟨.sl 3 (.int .i64),false,false⟩],[⟨.bool,false,false⟩]⟩
def su:aH:=⟨xl,none,λX=>((),((dh.g X.1 X.2.1),()))⟩
def xm:Gm:=aY
def IU:an Try.prog xm:=an.nil
def IV:aa:=⟨[],[],[],[],[]⟩
def IW(a b:LI):St:=aU xl.ps (a,(b,()))
def iK(a b:LI):St:=am [(0,.c (.sn 3 tI a none)),(1,.c (.sn 3 tI b none))] [] []
def n7:aa:=⟨[0,1],[],[],[],[]⟩
def n9(a b:LI)(d:Int):St:=am [(0,.c (.sn 3 tI a none)),(1,.c (.sn 3 tI b none)),(5,xi d)] [] []
def xn:aa:=⟨[0,1,5],[],[],[],[]⟩
def jT(a:Bool):St:=am [(4,xB a)] [] []
def IX:aa:=⟨[4],[],[],[],[]⟩
def IY:Nat->Option aa:=aw [(0,n7),(1000000,IX)]
abbrev oa{J:Type}(N n:Nat)(U:St)(l:aa)(K:KT J):Option J:=ah xm aZ IY N (aT 99 (a6 Try.f95) n) .n U (aq (some l) K)
def IZ N a b (K:KT J):oa N 2 (IW a b) n7 K =
 dh.Z1 N a b (λa b=>K .nrm (iK a b)):=by kernel_rfl
def I0 N a b (K:KT J):oa N 9 (iK a b) xn K =
 dh.Z4 N a b (λa b c=>K .nrm (n9 a b c)):=by kernel_rfl
def I1 N a b c (K:KT J):oa N 37 (n9 a b c) xn K =
 dh.Z7 N a b c (λa b c=>K .nrm (n9 a b c)) (λa b=>K (.exit 0) (iK a b)) (λd=>K .ret (jT d)):=by kernel_rfl
def I9 N (K:KT J):=dU K (dh.Z6L N (λa b=>K (.exit 0) (iK a b)) (λc=>K .ret (jT c))) (λa b d k=>dh.Z7 N a b d k (λa b=>K (.exit 0) (iK a b)) (λc=>K .ret (jT c))) (λF a b d=>I1 N a b d _) (by kernel_rfl)
def Ja N a b c (K:KT J):=vL (n9 a b c) (I9 N (jK n7 K) N a b c) (by kernel_rfl)
def Jb N a b c (K:KT J):=vB 0 n7 K (dh.Z5 N a b c (λa b=>K .nrm (iK a b)) (λd=>K .ret (jT d))) (Ja N a b c _) (by kernel_rfl)
def Jc N a b (K:KT J):=vQ (λk=>dh.Z4 N a b k) (I0 N a b _) (cM λa b c=>Jb N a b c K)
def Jd N a b (K:KT J):oa N 7 (iK a b) IV K =
 dh.Z8 N a b (λc=>K .ret (jT c)):=by kernel_rfl
def Je N a b (K:KT J):=vQ (λk=>dh.Z3 N a b k (λc=>K .ret (jT c))) (Jc N a b _) (bU λa b=>Jd N a b K)
def Jf N a b (K:KT J):=vQ (λk=>dh.Z1 N a b k) (IZ N a b _) (bU λa b=>Je N a b K)
def Jg(h:dh.Spec):ao Try.prog 95 su :=
 a7 Try.func95 a8 IU (λN X K=>Jf N X.1 X.2.1 K) (by kernel_rfl) λX hb hp=>by obtain⟨a,b,_⟩:=X;obtain⟨N,h⟩:=h a b hb.1 hb.2.1;exact⟨N,Eq.trans (by kernel_rfl) (h N (Nat.le_refl N))⟩
def Jh:ao Try.prog 95 su:=Jg dh.ok
def xp:aR:=⟨[⟨.pair (.int .i64) (.sl 107 (.pair (.sl 3 (.int .i64)) (.int .i64))),true,false⟩],[⟨.bool,false,false⟩]⟩
def sw:aH:=⟨xp,none,λX=>((),((bu.g X.1),()))⟩
def xq:Gm:=aQ (aQ aY 72 nP) 95 su
def Ji:an Try.prog xq:=((an.nil).add wG (by kernel_rfl)).add Jh (by kernel_rfl)
def Jj:aa:=⟨[],[],[],[],[]⟩
def Jk(a:Int×List (LI×Int)):St:=aU xp.ps (a,())
def ob(a:Int)(b:List (LI×Int)):St:=am [(1,xb 1)] [(1,(71,[yi a,.sn 107 (.pair (.sl 3 tI) tI) b none]))] []
def xr:aa:=⟨[1],[1],[],[],[]⟩
def eS(a b:Int)(c:List (LI×Int)):St:=am [(1,xb 1),(3,xi a)] [(1,(71,[yi b,.sn 107 (.pair (.sl 3 tI) tI) c none]))] []
def gO:aa:=⟨[1,3],[1],[],[],[]⟩
def oc(a b:Int)(c:List (LI×Int))(d:LI)(e:Int):St:=am [(1,xb 1),(3,xi a),(4,xb 4)] [(1,(71,[yi b,.sn 107 (.pair (.sl 3 tI) tI) c none])),(4,(107,[.sn 3 tI d none,yi e]))] []
def xt:aa:=⟨[1,3,4],[1,4],[],[],[]⟩
def od(a b c:Int)(d:List (LI×Int))(e:LI)(f:Int):St:=am [(1,xb 1),(3,xi a),(4,xb 4),(5,xi b)] [(1,(71,[yi c,.sn 107 (.pair (.sl 3 tI) tI) d none])),(4,(107,[.sn 3 tI e none,yi f]))] []
def xu:aa:=⟨[1,3,4,5],[1,4],[],[],[]⟩
def jU :St:=am [] [] []
def sx:aa:=⟨[],[],[],[],[]⟩
def dJ(a:Bool):St:=am [(2,xB a)] [] []
def Jl:aa:=⟨[2],[],[],[],[]⟩
def Jm:Nat->Option aa:=aw [(2,gO),(1,gO),(0,sx),(1000000,Jl)]
abbrev fE{J:Type}(N n:Nat)(U:St)(l:aa)(K:KT J):Option J:=ah xq aZ Jm N (aT 99 (a6 Try.f52) n) .n U (aq (some l) K)
def Jn N a (K:KT J):fE N 2 (Jk a) xr K =
 bu.Z1 N a (λb c=>K .nrm (ob b c)):=by kernel_rfl
def Jo N a b (K:KT J):fE N 5 (ob a b) xr K =
 bu.Z3 N a b (λa b=>K .nrm (ob a b)) (λc=>K .ret (dJ c)):=by kernel_rfl
def Jp N a b (K:KT J):fE N 19 (ob a b) gO K =
 bu.Z6 N a b (λc a b=>K .nrm (eS c a b)):=by kernel_rfl
def Jq N a b c (K:KT J):fE N 139 (eS a b c) gO K =
 bu.Z10 N a b c (λa b c=>K .nrm (eS a b c)) (K (.exit 0) jU):=by kernel_rfl
def Jr N a b c (K:KT J):fE N 1099 (eS a b c) xt K =
 bu.Z14 N a b c (λa b c d e=>K .nrm (oc a b c d e)):=by kernel_rfl
def Js N a b c d e (K:KT J):fE N 2635 (oc a b c d e) xt K =
 bu.Z16 N a b c d e (λa b c d e=>K .nrm (oc a b c d e)) (λf=>K .ret (dJ f)):=by kernel_rfl
def Jt N a b c d e (K:KT J):fE N 5707 (oc a b c d e) xu K =
 bu.Z18 N a b c d e (λa f b c d e=>K .nrm (od a f b c d e)):=by kernel_rfl
def Ju N a d b c e f (K:KT J):fE N 20043 (od a d b c e f) xu K =
 bu.Z21 N a d b c e f (λa d b c e f=>K .nrm (od a d b c e f)) (λa b c=>K (.exit 2) (eS a b c)) (λg=>K .ret (dJ g)):=by kernel_rfl
def Jv N (K:KT J):=nk K (bu.Z20L N (λa b c=>K (.exit 2) (eS a b c)) (λd=>K .ret (dJ d))) (λa e b c f g k=>bu.Z21 N a e b c f g k (λa b c=>K (.exit 2) (eS a b c)) (λd=>K .ret (dJ d))) (λF a e b c f g=>Ju N a e b c f g _) (by kernel_rfl)
def Jw N a b c d e f (K:KT J):=vL (od a b c d e f) (Jv N (jK gO K) N a b c d e f) (by kernel_rfl)
def Jx N a d b c e f (K:KT J):=vB 2 gO K (bu.Z19 N a d b c e f (λa b c=>K .nrm (eS a b c)) (λg=>K .ret (dJ g))) (Jw N a d b c e f _) (by kernel_rfl)
def Jy N a b c d e (K:KT J):=vQ (λk=>bu.Z18 N a b c d e k) (Jt N a b c d e _) (jz λa f b c d e=>Jx N a f b c d e K)
def Jz N a b c d e (K:KT J):=vQ (λk=>bu.Z16 N a b c d e k (λf=>K .ret (dJ f))) (Js N a b c d e _) (dB λa b c d e=>Jy N a b c d e K)
def JA N a b c (K:KT J):=vQ (λk=>bu.Z14 N a b c k) (Jr N a b c _) (dB λa b c d e=>Jz N a b c d e K)
def JB N a b c (K:KT J):=vB 1 gO K (bu.Z12 N a b c (λa b c=>K .nrm (eS a b c)) (λd=>K .ret (dJ d))) (JA N a b c _) (by kernel_rfl)
def JC N a b c (K:KT J):fE N 459 (eS a b c) gO K =
 bu.Z22 N a b c (λa b c=>K .nrm (eS a b c)):=by kernel_rfl
def JD N a b c (K:KT J):=vQ (λk=>bu.Z12 N a b c k (λd=>K .ret (dJ d))) (JB N a b c _) (cM λa b c=>JC N a b c K)
def JE N a b c (K:KT J):=vQ (λk=>bu.Z10 N a b c k (K (.exit 0) jU)) (Jq N a b c _) (cM λa b c=>JD N a b c K)
def JF N (K:KT J):=dU K (bu.Z8L N (K (.exit 0) jU) (λa=>K .ret (dJ a))) (λb c d k=>bu.Z9 N b c d k (K (.exit 0) jU) (λa=>K .ret (dJ a))) (λF b c d=>JE N b c d _) (by kernel_rfl)
def JG N a b c (K:KT J):=vL (eS a b c) (JF N (jK sx K) N a b c) (by kernel_rfl)
def JH N a b c (K:KT J):=vB 0 sx K (bu.Z7 N a b c (K .nrm jU) (λd=>K .ret (dJ d))) (JG N a b c _) (by kernel_rfl)
def JI N a b (K:KT J):=vQ (λk=>bu.Z6 N a b k) (Jp N a b _) (cM λc a b=>JH N c a b K)
def JJ N  (K:KT J):fE N 15 jU Jj K =
 bu.Z23 N (λa=>K .ret (dJ a)):=by kernel_rfl
def JK N a b (K:KT J):=vQ (λk=>bu.Z5 N a b k (λc=>K .ret (dJ c))) (JI N a b _) (JJ N K)
def JL N a b (K:KT J):=vQ (λk=>bu.Z3 N a b k (λc=>K .ret (dJ c))) (Jo N a b _) (bU λa b=>JK N a b K)
def JM N a (K:KT J):=vQ (λk=>bu.Z1 N a k) (Jn N a _) (bU λb c=>JL N b c K)
def JN(h:bu.Spec):ao Try.prog 52 sw :=
 a7 Try.func52 a8 Ji (λN X K=>JM N X.1 K) (by kernel_rfl) λX hb hp=>by obtain⟨a,_⟩:=X;obtain⟨N,h⟩:=h a hb.1;exact⟨N,Eq.trans (by kernel_rfl) (h N (Nat.le_refl N))⟩
def JO:ao Try.prog 52 sw:=JN bu.ok
def xv:aR:=⟨[⟨.pair (.pair (.int .i64) (.pair (.int .i64) (.sl 3 (.int .i64)))) (.sl 71 (.pair (.int .i64) (.sl 107 (.pair (.sl 3 (.int .i64)) (.int .i64))))),true,false⟩],[⟨.bool,false,false⟩]⟩
def sy:aH:=⟨xv,none,λX=>((),((cz.g X.1),()))⟩
def xw:Gm:=aQ (aQ aY 51 sr) 52 sw
def JP:an Try.prog xw:=((an.nil).add IT (by kernel_rfl)).add JO (by kernel_rfl)
def JQ:aa:=⟨[],[],[],[],[]⟩
def JR(a:(MT)×List (Int×List (LI×Int))):St:=aU xv.ps (a,())
def og(a b:Int)(c:LI)(d:List (Int×List (LI×Int))):St:=am [(1,xb 1)] [(1,(33,[yi a,yi b,.sn 3 tI c none,.sn 71 (.pair tI (.sl 107 (.pair (.sl 3 tI) tI))) d none]))] []
def xx:aa:=⟨[1],[1],[],[],[]⟩
def oh(a b c:Int)(d:LI)(e:List (Int×List (LI×Int))):St:=am [(1,xb 1),(3,xi a)] [(1,(33,[yi b,yi c,.sn 3 tI d none,.sn 71 (.pair tI (.sl 107 (.pair (.sl 3 tI) tI))) e none]))] []
def xy:aa:=⟨[1,3],[1],[],[],[]⟩
def lI :St:=am [] [] []
def sA:aa:=⟨[],[],[],[],[]⟩
def gP(a:Bool):St:=am [(2,xB a)] [] []
def JS:aa:=⟨[2],[],[],[],[]⟩
def JT:Nat->Option aa:=aw [(0,sA),(1000000,JS)]
abbrev lJ{J:Type}(N n:Nat)(U:St)(l:aa)(K:KT J):Option J:=ah xw aZ JT N (aT 99 (a6 Try.f12) n) .n U (aq (some l) K)
def JU N a (K:KT J):lJ N 2 (JR a) xx K =
 cz.Z1 N a (λb c d e=>K .nrm (og b c d e)):=by kernel_rfl
def JV N a b c d (K:KT J):lJ N 5 (og a b c d) xx K =
 cz.Z3 N a b c d (λa b c d=>K .nrm (og a b c d)) (λe=>K .ret (gP e)):=by kernel_rfl
def JW N a b c d (K:KT J):lJ N 19 (og a b c d) xy K =
 cz.Z6 N a b c d (λe a b c d=>K .nrm (oh e a b c d)):=by kernel_rfl
def JX N a b c d e (K:KT J):lJ N 75 (oh a b c d e) xy K =
 cz.Z9 N a b c d e (λa b c d e=>K .nrm (oh a b c d e)) (K (.exit 0) lI) (λf=>K .ret (gP f)):=by kernel_rfl
def JY N (K:KT J):=iF K (cz.Z8L N (K (.exit 0) lI) (λa=>K .ret (gP a))) (λb c d e f k=>cz.Z9 N b c d e f k (K (.exit 0) lI) (λa=>K .ret (gP a))) (λF b c d e f=>JX N b c d e f _) (by kernel_rfl)
def JZ N a b c d e (K:KT J):=vL (oh a b c d e) (JY N (jK sA K) N a b c d e) (by kernel_rfl)
def J0 N a b c d e (K:KT J):=vB 0 sA K (cz.Z7 N a b c d e (K .nrm lI) (λf=>K .ret (gP f))) (JZ N a b c d e _) (by kernel_rfl)
def J1 N a b c d (K:KT J):=vQ (λk=>cz.Z6 N a b c d k) (JW N a b c d _) (dB λe a b c d=>J0 N e a b c d K)
def J2 N  (K:KT J):lJ N 15 lI JQ K =
 cz.Z10 N (λa=>K .ret (gP a)):=by kernel_rfl
def J3 N a b c d (K:KT J):=vQ (λk=>cz.Z5 N a b c d k (λe=>K .ret (gP e))) (J1 N a b c d _) (J2 N K)
def J4 N a b c d (K:KT J):=vQ (λk=>cz.Z3 N a b c d k (λe=>K .ret (gP e))) (JV N a b c d _) (fT λa b c d=>J3 N a b c d K)
def J5 N a (K:KT J):=vQ (λk=>cz.Z1 N a k) (JU N a _) (fT λb c d e=>J4 N b c d e K)
def J6(h:cz.Spec):ao Try.prog 12 sy :=
 a7 Try.func12 a8 JP (λN X K=>J5 N X.1 K) (by kernel_rfl) λX hb hp=>by obtain⟨a,_⟩:=X;obtain⟨N,h⟩:=h a hb.1;exact⟨N,Eq.trans (by kernel_rfl) (h N (Nat.le_refl N))⟩
def J7:ao Try.prog 12 sy:=J6 cz.ok
def xz:aR:=⟨[⟨.int .i64,false,false⟩,⟨.int .i64,false,false⟩,⟨.int .i64,false,false⟩],[⟨.bool,false,false⟩]⟩
def iL:aH:=⟨xz,none,λX=>((),((dj.g X.1 X.2.1 X.2.2.1),()))⟩
def xA:Gm:=aY
def J8:an Try.prog xA:=an.nil
def J9:aa:=⟨[],[],[],[],[]⟩
def Ka(a b c:Int):St:=aU xz.ps (a,(b,(c,())))
def Kb(a:Bool):St:=am [(6,xB a)] [] []
def Kc:aa:=⟨[6],[],[],[],[]⟩
def Kd:Nat->Option aa:=aw [(1000000,Kc)]
abbrev Ke{J:Type}(N n:Nat)(U:St)(l:aa)(K:KT J):Option J:=ah xA aZ Kd N (aT 99 (a6 Try.f70) n) .n U (aq (some l) K)
def Kf N a b c (K:KT J):Ke N 1 (Ka a b c) J9 K =
 dj.Z0 N a b c (λd=>K .ret (Kb d)):=by kernel_rfl
def Kg(h:dj.Spec):ao Try.prog 70 iL :=
 a7 Try.func70 a8 J8 (λN X K=>Kf N X.1 X.2.1 X.2.2.1 K) (by kernel_rfl) λX hb hp=>by obtain⟨a,b,c,_⟩:=X;obtain⟨N,h⟩:=h a b c;exact⟨N,Eq.trans (by kernel_rfl) (h N (Nat.le_refl N))⟩
def lK:ao Try.prog 70 iL:=Kg dj.ok
def xC:aR:=⟨[⟨.int .i64,false,false⟩],[⟨.bool,false,false⟩]⟩
def sB:aH:=⟨xC,none,λX=>((),((dE.g X.1),()))⟩
def xD:Gm:=aQ aY 70 iL
def Kh:an Try.prog xD:=(an.nil).add lK (by kernel_rfl)
def Ki:aa:=⟨[],[],[],[],[]⟩
def Kj(a:Int):St:=aU xC.ps (a,())
def Kk(a:Bool):St:=am [(2,xB a)] [] []
def Kl:aa:=⟨[2],[],[],[],[]⟩
def Km:Nat->Option aa:=aw [(1000000,Kl)]
abbrev Kn{J:Type}(N n:Nat)(U:St)(l:aa)(K:KT J):Option J:=ah xD aZ Km N (aT 99 (a6 Try.f109) n) .n U (aq (some l) K)
def Ko N a (K:KT J):Kn N 1 (Kj a) Ki K =
 dE.Z0 N a (λb=>K .ret (Kk b)):=by kernel_rfl
def Kp(h:dE.Spec):ao Try.prog 109 sB :=
 a7 Try.func109 a8 Kh (λN X K=>Ko N X.1 K) (by kernel_rfl) λX hb hp=>by obtain⟨a,_⟩:=X;obtain⟨N,h⟩:=h a;exact⟨N,Eq.trans (by kernel_rfl) (h N (Nat.le_refl N))⟩
def Kq:ao Try.prog 109 sB:=Kp dE.ok
def xE:aR:=⟨[⟨.sl 3 (.int .i64),false,false⟩,⟨.fnc 109,false,false⟩],[⟨.int .i64,false,false⟩]⟩
def sC:aH:=⟨xE,none,λX=>((),((cW.g X.1 X.2.1),()))⟩
def xF:Gm:=aQ aY 109 sB
def Kr:an Try.prog xF:=(an.nil).add Kq (by kernel_rfl)
def Ks:aa:=⟨[],[],[],[],[]⟩
def Kt(a:LI)(b:Unit):St:=aU xE.ps (a,(b,()))
def xG(a:LI):St:=am [(0,.c (.sn 3 tI a none)),(1,.c (.fn 109 []))] [] []
def Ku:aa:=⟨[0,1],[],[],[],[]⟩
def om(a:LI)(b d:Int):St:=am [(0,.c (.sn 3 tI a none)),(1,.c (.fn 109 [])),(7,xi b),(8,xi d)] [] []
def xH:aa:=⟨[0,1,7,8],[],[],[],[]⟩
def lL :St:=am [] [] []
def sD:aa:=⟨[],[],[],[],[]⟩
def jV(a:Int):St:=am [(4,xi a)] [] []
def Kv:aa:=⟨[4],[],[],[],[]⟩
def Kw:Nat->Option aa:=aw [(0,sD),(1000000,Kv)]
abbrev oq{J:Type}(N n:Nat)(U:St)(l:aa)(K:KT J):Option J:=ah xF aZ Kw N (aT 99 (a6 Try.f128) n) .n U (aq (some l) K)
def Kx N a b (K:KT J):oq N 2 (Kt a b) Ku K =
 cW.Z1 N a b (λa=>K .nrm (xG a)):=by kernel_rfl
def Ky N a (K:KT J):oq N 9 (xG a) xH K =
 cW.Z4 N a (λa b c=>K .nrm (om a b c)):=by kernel_rfl
def Kz N a b c (K:KT J):oq N 37 (om a b c) xH K =
 cW.Z7 N a b c (λa b c=>K .nrm (om a b c)) (K (.exit 0) lL) (λd=>K .ret (jV d)):=by kernel_rfl
def KA N (K:KT J):=dU K (cW.Z6L N (K (.exit 0) lL) (λa=>K .ret (jV a))) (λb c d k=>cW.Z7 N b c d k (K (.exit 0) lL) (λa=>K .ret (jV a))) (λF b c d=>Kz N b c d _) (by kernel_rfl)
def KB N a b c (K:KT J):=vL (om a b c) (KA N (jK sD K) N a b c) (by kernel_rfl)
def KC N a b c (K:KT J):=vB 0 sD K (cW.Z5 N a b c (K .nrm lL) (λd=>K .ret (jV d))) (KB N a b c _) (by kernel_rfl)
def KD N a (K:KT J):=vQ (λk=>cW.Z4 N a k) (Ky N a _) (cM λa b c=>KC N a b c K)
def KE N  (K:KT J):oq N 7 lL Ks K =
 cW.Z8 N (λa=>K .ret (jV a)):=by kernel_rfl
def KF N a (K:KT J):=vQ (λk=>cW.Z3 N a k (λb=>K .ret (jV b))) (KD N a _) (KE N K)
def KG N a b (K:KT J):=vQ (λk=>cW.Z1 N a b k) (Kx N a b _) (funext λa=>KF N a K)
def KH(h:cW.Spec):ao Try.prog 128 sC :=
 a7 Try.func128 a8 Kr (λN X K=>KG N X.1 X.2.1 K) (by kernel_rfl) λX hb hp=>by obtain⟨a,b,_⟩:=X;obtain⟨N,h⟩:=h a b hb.1;exact⟨N,Eq.trans (by kernel_rfl) (h N (Nat.le_refl N))⟩
def KI:ao Try.prog 128 sC:=KH cW.ok
def xI:aR:=⟨[⟨.sl 3 (.int .i64),false,false⟩,⟨.fnc 109,false,false⟩],[⟨.bool,false,false⟩]⟩
def sE:aH:=⟨xI,none,λX=>((),((fY.g X.1 X.2.1),()))⟩
def xJ:Gm:=aQ aY 128 sC
def KJ:an Try.prog xJ:=(an.nil).add KI (by kernel_rfl)
def KK:aa:=⟨[],[],[],[],[]⟩
def KL(a:LI)(b:Unit):St:=aU xI.ps (a,(b,()))
def KM(a:Bool):St:=am [(4,xB a)] [] []
def KN:aa:=⟨[4],[],[],[],[]⟩
def KO:Nat->Option aa:=aw [(1000000,KN)]
abbrev KP{J:Type}(N n:Nat)(U:St)(l:aa)(K:KT J):Option J:=ah xJ aZ KO N (aT 99 (a6 Try.f108) n) .n U (aq (some l) K)
def KQ N a b (K:KT J):KP N 1 (KL a b) KK K =
 fY.Z0 N a b (λc=>K .ret (KM c)):=by kernel_rfl
def KR(h:fY.Spec):ao Try.prog 108 sE :=
 a7 Try.func108 a8 KJ (λN X K=>KQ N X.1 X.2.1 K) (by kernel_rfl) λX hb hp=>by obtain⟨a,b,_⟩:=X;obtain⟨N,h⟩:=h a b hb.1;exact⟨N,Eq.trans (by kernel_rfl) (h N (Nat.le_refl N))⟩
def KS:ao Try.prog 108 sE:=KR fY.ok
def xK:aR:=⟨[⟨.pair (.int .i64) (.pair (.int .i64) (.sl 3 (.int .i64))),true,false⟩],[⟨.bool,false,false⟩]⟩
def sF:aH:=⟨xK,none,λX=>((),((fZ.g X.1),()))⟩
def xL:Gm:=aQ (aQ aY 70 iL) 108 sE
def KU:an Try.prog xL:=((an.nil).add lK (by kernel_rfl)).add KS (by kernel_rfl)
def KV:aa:=⟨[],[],[],[],[]⟩
def KW(a:MT):St:=aU xK.ps (a,())
def KX(a:Bool):St:=am [(2,xB a)] [] []
def KY:aa:=⟨[2],[],[],[],[]⟩
def KZ:Nat->Option aa:=aw [(1000000,KY)]
abbrev K0{J:Type}(N n:Nat)(U:St)(l:aa)(K:KT J):Option J:=ah xL aZ KZ N (aT 99 (a6 Try.f75) n) .n U (aq (some l) K)
def K1 N a (K:KT J):K0 N 1 (KW a) KV K =
 fZ.Z0 N a (λb=>K .ret (KX b)):=by kernel_rfl
def K2(h:fZ.Spec):ao Try.prog 75 sF :=
 a7 Try.func75 a8 KU (λN X K=>K1 N X.1 K) (by kernel_rfl) λX hb hp=>by obtain⟨a,_⟩:=X;obtain⟨N,h⟩:=h a hb.1;exact⟨N,Eq.trans (by kernel_rfl) (h N (Nat.le_refl N))⟩
def K3:ao Try.prog 75 sF:=K2 fZ.ok
def xM:aR:=⟨[⟨.pair (.int .i64) (.pair (.int .i64) (.sl 3 (.int .i64))),true,false⟩,⟨.int .i64,false,false⟩,⟨.int .i64,false,false⟩],[⟨.int .i64,false,false⟩]⟩
def sG:aH:=⟨xM,(some λX=>dY.P X.1 X.2.1 X.2.2.1),λX=>((),((dY.g X.1 X.2.1 X.2.2.1),()))⟩
def xN:Gm:=aY
def K4:an Try.prog xN:=an.nil
def K5:aa:=⟨[],[],[],[],[]⟩
def K6(a:MT)(b c:Int):St:=aU xM.ps (a,(b,(c,())))
def K7(a:Int):St:=am [(6,xi a)] [] []
def K8:aa:=⟨[6],[],[],[],[]⟩
def K9:Nat->Option aa:=aw [(1000000,K8)]
abbrev La{J:Type}(N n:Nat)(U:St)(l:aa)(K:KT J):Option J:=ah xN aZ K9 N (aT 99 (a6 Try.f83) n) .n U (aq (some l) K)
def Lc N a b c (K:KT J):La N 1 (K6 a b c) K5 K =
 dY.Z0 N a b c (λd=>K .ret (K7 d)):=by kernel_rfl
def Ld(h:dY.Spec):ao Try.prog 83 sG :=
 a7 Try.func83 a8 K4 (λN X K=>Lc N X.1 X.2.1 X.2.2.1 K) (by kernel_rfl) λX hb hp=>by obtain⟨a,b,c,_⟩:=X;obtain⟨N,h⟩:=h a b c hb.1 hp;exact⟨N,Eq.trans (by kernel_rfl) (h N (Nat.le_refl N))⟩
def Le:ao Try.prog 83 sG:=Ld dY.ok
def xO:aR:=⟨[⟨.int .i64,false,false⟩,⟨.int .i64,false,false⟩],[⟨.int .i64,false,false⟩]⟩
def sH:aH:=⟨xO,(some λX=>bL.P X.1 X.2.1),λX=>((),((bL.g X.1 X.2.1),()))⟩
def xP:Gm:=aY
def Lg:an Try.prog xP:=an.nil
def Lh:aa:=⟨[],[],[],[],[]⟩
def Li(a b:Int):St:=aU xO.ps (a,(b,()))
def ot(a b:Int):St:=am [(0,xi a),(1,xi b)] [] []
def xQ:aa:=⟨[0,1],[],[],[],[]⟩
def lM(a:Int):St:=am [(0,xi a)] [] []
def sI:aa:=⟨[0],[],[],[],[]⟩
def Lj(a:Int):St:=am [(4,xi a)] [] []
def Lk:aa:=⟨[4],[],[],[],[]⟩
def Ll:Nat->Option aa:=aw [(0,sI),(1000000,Lk)]
abbrev sJ{J:Type}(N n:Nat)(U:St)(l:aa)(K:KT J):Option J:=ah xP aZ Ll N (aT 99 (a6 Try.f110) n) .n U (aq (some l) K)
def Lm N a b (K:KT J):sJ N 2 (Li a b) xQ K =
 bL.Z1 N a b (λa b=>K .nrm (ot a b)):=by kernel_rfl
def Ln N a b (K:KT J):sJ N 17 (ot a b) xQ K =
 bL.Z5 N a b (λa b=>K .nrm (ot a b)) (λa=>K (.exit 0) (lM a)):=by kernel_rfl
def Lo N (K:KT J):=q7 K (bL.Z4L N (λa=>K (.exit 0) (lM a))) (λa b k=>bL.Z5 N a b k (λa=>K (.exit 0) (lM a))) (λF a b=>Ln N a b _) (by kernel_rfl)
def Lp N a b (K:KT J):=vL (ot a b) (Lo N (jK sI K) N a b) (by kernel_rfl)
def Lq N a b (K:KT J):=vB 0 sI K (bL.Z3 N a b (λa=>K .nrm (lM a))) (Lp N a b _) (by kernel_rfl)
def Lt N a (K:KT J):sJ N 7 (lM a) Lh K =
 bL.Z6 N a (λb=>K .ret (Lj b)):=by kernel_rfl
def Lu N a b (K:KT J):=vQ (λk=>bL.Z3 N a b k) (Lq N a b _) (funext λa=>Lt N a K)
def Lv N a b (K:KT J):=vQ (λk=>bL.Z1 N a b k) (Lm N a b _) (bU λa b=>Lu N a b K)
def Lw(h:bL.Spec):ao Try.prog 110 sH :=
 a7 Try.func110 a8 Lg (λN X K=>Lv N X.1 X.2.1 K) (by kernel_rfl) λX hb hp=>by obtain⟨a,b,_⟩:=X;obtain⟨N,h⟩:=h a b hp;exact⟨N,Eq.trans (by kernel_rfl) (h N (Nat.le_refl N))⟩
def Lx:ao Try.prog 110 sH:=Lw bL.ok
def xR:aR:=⟨[⟨.pair (.int .i64) (.pair (.int .i64) (.sl 3 (.int .i64))),true,false⟩],[⟨.sl 3 (.int .i64),false,true⟩]⟩
def sK:aH:=⟨xR,(some λX=>aA.P X.1),λX=>((),((aA.g X.1),()))⟩
def xS:Gm:=aQ (aQ aY 83 sG) 110 sH
def Ly:an Try.prog xS:=((an.nil).add Le (by kernel_rfl)).add Lx (by kernel_rfl)
def Lz:aa:=⟨[],[],[],[],[]⟩
def LA(a:MT):St:=aU xR.ps (a,())
def xT(a b:Int)(c:LI):St:=am [(1,xb 1)] [(1,(30,[yi a,yi b,.sn 3 tI c none]))] []
def LB:aa:=⟨[1],[1],[],[],[]⟩
def xU(a b:LI)(c d:Int)(e:LI):St:=am [(1,xb 1),(3,xo 1000192),(4,xo 1000256)] [(1,(30,[yi c,yi d,.sn 3 tI e none]))] [(1000192,(⟨3,.int .i64,a,true,false⟩:ac)),(1000256,(⟨3,.int .i64,b,true,false⟩:ac))]
def LC:aa:=⟨[1,3,4],[1],[],[],[(⟨false,3,0⟩,1000192),(⟨false,4,0⟩,1000256)]⟩
def xV(a b c:LI)(d e:Int)(f:LI):St:=am [(1,xb 1),(3,xo 1000192),(4,xo 1000256),(5,xo 1000320)] [(1,(30,[yi d,yi e,.sn 3 tI f none]))] [(1000192,(⟨3,.int .i64,a,true,false⟩:ac)),(1000256,(⟨3,.int .i64,b,true,false⟩:ac)),(1000320,(⟨3,.int .i64,c,true,false⟩:ac))]
def LD:aa:=⟨[1,3,4,5],[1],[],[],[(⟨false,3,0⟩,1000192),(⟨false,4,0⟩,1000256),(⟨false,5,0⟩,1000320)]⟩
def dW(a b c:LI)(d e f g:Int)(h:LI):St:=am [(1,xb 1),(3,xo 1000192),(4,xo 1000256),(5,xo 1000320),(34,xi d),(35,xi e)] [(1,(30,[yi f,yi g,.sn 3 tI h none]))] [(1000192,(⟨3,.int .i64,a,true,false⟩:ac)),(1000256,(⟨3,.int .i64,b,true,false⟩:ac)),(1000320,(⟨3,.int .i64,c,true,false⟩:ac))]
def gQ:aa:=⟨[1,3,4,5,34,35],[1],[],[],[(⟨false,3,0⟩,1000192),(⟨false,4,0⟩,1000256),(⟨false,5,0⟩,1000320)]⟩
def xW(a b c:LI)(d e:Int)(f:Bool)(g h:Int)(i:LI):St:=am [(1,xb 1),(3,xo 1000192),(4,xo 1000256),(5,xo 1000320),(34,xi d),(35,xi e),(36,xB f)] [(1,(30,[yi g,yi h,.sn 3 tI i none]))] [(1000192,(⟨3,.int .i64,a,true,false⟩:ac)),(1000256,(⟨3,.int .i64,b,true,false⟩:ac)),(1000320,(⟨3,.int .i64,c,true,false⟩:ac))]
def LE:aa:=⟨[1,3,4,5,34,35,36],[1],[],[],[(⟨false,3,0⟩,1000192),(⟨false,4,0⟩,1000256),(⟨false,5,0⟩,1000320)]⟩
def jW(a b c:LI)(d e f g h:Int)(i:LI):St:=am [(1,xb 1),(3,xo 1000192),(4,xo 1000256),(5,xo 1000320),(6,xi d),(34,xi e),(35,xi f)] [(1,(30,[yi g,yi h,.sn 3 tI i none]))] [(1000192,(⟨3,.int .i64,a,true,false⟩:ac)),(1000256,(⟨3,.int .i64,b,true,false⟩:ac)),(1000320,(⟨3,.int .i64,c,true,false⟩:ac))]
def sL:aa:=⟨[1,3,4,5,6,34,35],[1],[],[],[(⟨false,3,0⟩,1000192),(⟨false,4,0⟩,1000256),(⟨false,5,0⟩,1000320)]⟩
def gR(a b c d:LI)(e f g h:Int)(i:LI):St:=am [(1,xb 1),(3,xo 1000192),(4,xo 1000256),(5,xo 1000320),(7,xo 1000448),(34,xi e),(35,xi f)] [(1,(30,[yi g,yi h,.sn 3 tI i none]))] [(1000192,(⟨3,.int .i64,a,true,false⟩:ac)),(1000256,(⟨3,.int .i64,b,true,false⟩:ac)),(1000320,(⟨3,.int .i64,c,true,false⟩:ac)),(1000448,(⟨3,.int .i64,d,true,false⟩:ac))]
def ou:aa:=⟨[1,3,4,5,7,34,35],[1],[],[],[(⟨false,3,0⟩,1000192),(⟨false,4,0⟩,1000256),(⟨false,5,0⟩,1000320),(⟨false,7,0⟩,1000448)]⟩
def eF(a b c d:LI)(e f g h i:Int)(j:LI):St:=am [(1,xb 1),(3,xo 1000192),(4,xo 1000256),(5,xo 1000320),(7,xo 1000448),(8,xi e),(34,xi f),(35,xi g)] [(1,(30,[yi h,yi i,.sn 3 tI j none]))] [(1000192,(⟨3,.int .i64,a,true,false⟩:ac)),(1000256,(⟨3,.int .i64,b,true,false⟩:ac)),(1000320,(⟨3,.int .i64,c,true,false⟩:ac)),(1000448,(⟨3,.int .i64,d,true,false⟩:ac))]
def gS:aa:=⟨[1,3,4,5,7,8,34,35],[1],[],[],[(⟨false,3,0⟩,1000192),(⟨false,4,0⟩,1000256),(⟨false,5,0⟩,1000320),(⟨false,7,0⟩,1000448)]⟩
def xX(a b c d:LI)(e f g h i j:Int)(l:LI):St:=am [(1,xb 1),(3,xo 1000192),(4,xo 1000256),(5,xo 1000320),(7,xo 1000448),(8,xi e),(9,xi f),(34,xi g),(35,xi h)] [(1,(30,[yi i,yi j,.sn 3 tI l none]))] [(1000192,(⟨3,.int .i64,a,true,false⟩:ac)),(1000256,(⟨3,.int .i64,b,true,false⟩:ac)),(1000320,(⟨3,.int .i64,c,true,false⟩:ac)),(1000448,(⟨3,.int .i64,d,true,false⟩:ac))]
def LF:aa:=⟨[1,3,4,5,7,8,9,34,35],[1],[],[],[(⟨false,3,0⟩,1000192),(⟨false,4,0⟩,1000256),(⟨false,5,0⟩,1000320),(⟨false,7,0⟩,1000448)]⟩
def fp(a b c d:LI)(e f g h i j l m:Int)(o:LI):St:=am [(1,xb 1),(3,xo 1000192),(4,xo 1000256),(5,xo 1000320),(7,xo 1000448),(8,xi e),(9,xi f),(34,xi g),(35,xi h),(62,xi i),(63,xi j)] [(1,(30,[yi l,yi m,.sn 3 tI o none]))] [(1000192,(⟨3,.int .i64,a,true,false⟩:ac)),(1000256,(⟨3,.int .i64,b,true,false⟩:ac)),(1000320,(⟨3,.int .i64,c,true,false⟩:ac)),(1000448,(⟨3,.int .i64,d,true,false⟩:ac))]
def jX:aa:=⟨[1,3,4,5,7,8,9,34,35,62,63],[1],[],[],[(⟨false,3,0⟩,1000192),(⟨false,4,0⟩,1000256),(⟨false,5,0⟩,1000320),(⟨false,7,0⟩,1000448)]⟩
def xY(a b c d:LI)(e f g h i j:Int)(l:Bool)(m o:Int)(p:LI):St:=am [(1,xb 1),(3,xo 1000192),(4,xo 1000256),(5,xo 1000320),(7,xo 1000448),(8,xi e),(9,xi f),(34,xi g),(35,xi h),(62,xi i),(63,xi j),(64,xB l)] [(1,(30,[yi m,yi o,.sn 3 tI p none]))] [(1000192,(⟨3,.int .i64,a,true,false⟩:ac)),(1000256,(⟨3,.int .i64,b,true,false⟩:ac)),(1000320,(⟨3,.int .i64,c,true,false⟩:ac)),(1000448,(⟨3,.int .i64,d,true,false⟩:ac))]
def LG:aa:=⟨[1,3,4,5,7,8,9,34,35,62,63,64],[1],[],[],[(⟨false,3,0⟩,1000192),(⟨false,4,0⟩,1000256),(⟨false,5,0⟩,1000320),(⟨false,7,0⟩,1000448)]⟩
def xZ(a b c d:LI)(e f g h i j l m o:Int)(p:LI):St:=am [(1,xb 1),(3,xo 1000192),(4,xo 1000256),(5,xo 1000320),(7,xo 1000448),(8,xi e),(9,xi f),(10,xi g),(34,xi h),(35,xi i),(62,xi j),(63,xi l)] [(1,(30,[yi m,yi o,.sn 3 tI p none]))] [(1000192,(⟨3,.int .i64,a,true,false⟩:ac)),(1000256,(⟨3,.int .i64,b,true,false⟩:ac)),(1000320,(⟨3,.int .i64,c,true,false⟩:ac)),(1000448,(⟨3,.int .i64,d,true,false⟩:ac))]
def LH:aa:=⟨[1,3,4,5,7,8,9,10,34,35,62,63],[1],[],[],[(⟨false,3,0⟩,1000192),(⟨false,4,0⟩,1000256),(⟨false,5,0⟩,1000320),(⟨false,7,0⟩,1000448)]⟩
def ov(a b c d:LI)(e f g h i j l m o p q:Int)(r:LI):St:=am [(1,xb 1),(3,xo 1000192),(4,xo 1000256),(5,xo 1000320),(7,xo 1000448),(8,xi e),(9,xi f),(10,xi g),(11,xi h),(12,xi i),(34,xi j),(35,xi l),(62,xi m),(63,xi o)] [(1,(30,[yi p,yi q,.sn 3 tI r none]))] [(1000192,(⟨3,.int .i64,a,true,false⟩:ac)),(1000256,(⟨3,.int .i64,b,true,false⟩:ac)),(1000320,(⟨3,.int .i64,c,true,false⟩:ac)),(1000448,(⟨3,.int .i64,d,true,false⟩:ac))]
def ya:aa:=⟨[1,3,4,5,7,8,9,10,11,12,34,35,62,63],[1],[],[],[(⟨false,3,0⟩,1000192),(⟨false,4,0⟩,1000256),(⟨false,5,0⟩,1000320),(⟨false,7,0⟩,1000448)]⟩
def iM(a b c d:LI)(e f g h i:Int)(j:LI):St:=am [(1,xb 1),(3,xo 1000192),(4,xo 1000256),(5,xo 1000320),(7,xo 1000448),(16,xi e),(34,xi f),(35,xi g)] [(1,(30,[yi h,yi i,.sn 3 tI j none]))] [(1000192,(⟨3,.int .i64,a,true,false⟩:ac)),(1000256,(⟨3,.int .i64,b,true,false⟩:ac)),(1000320,(⟨3,.int .i64,c,true,false⟩:ac)),(1000448,(⟨3,.int .i64,d,true,false⟩:ac))]
def ow:aa:=⟨[1,3,4,5,7,16,34,35],[1],[],[],[(⟨false,3,0⟩,1000192),(⟨false,4,0⟩,1000256),(⟨false,5,0⟩,1000320),(⟨false,7,0⟩,1000448)]⟩
def ox(a b c d:LI)(e f g h i j l:Int)(m:LI):St:=am [(1,xb 1),(3,xo 1000192),(4,xo 1000256),(5,xo 1000320),(7,xo 1000448),(16,xi e),(34,xi f),(35,xi g),(158,xo 1000448),(159,xi h),(160,xi i)] [(1,(30,[yi j,yi l,.sn 3 tI m none]))] [(1000192,(⟨3,.int .i64,a,true,false⟩:ac)),(1000256,(⟨3,.int .i64,b,true,false⟩:ac)),(1000320,(⟨3,.int .i64,c,true,false⟩:ac)),(1000448,(⟨3,.int .i64,d,true,false⟩:ac))]
def yb:aa:=⟨[1,3,4,5,7,16,34,35,158,159,160],[1],[],[],[(⟨false,3,0⟩,1000192),(⟨false,4,0⟩,1000256),(⟨false,5,0⟩,1000320),(⟨false,7,0⟩,1000448)]⟩
def yc(a b c d:LI)(e f g h i j:Int)(l:LI):St:=am [(1,xb 1),(3,xo 1000192),(4,xo 1000256),(5,xo 1000320),(7,xo 1000448),(16,xi e),(19,xi f),(34,xi g),(35,xi h)] [(1,(30,[yi i,yi j,.sn 3 tI l none]))] [(1000192,(⟨3,.int .i64,a,true,false⟩:ac)),(1000256,(⟨3,.int .i64,b,true,false⟩:ac)),(1000320,(⟨3,.int .i64,c,true,false⟩:ac)),(1000448,(⟨3,.int .i64,d,true,false⟩:ac))]
def LJ:aa:=⟨[1,3,4,5,7,16,19,34,35],[1],[],[],[(⟨false,3,0⟩,1000192),(⟨false,4,0⟩,1000256),(⟨false,5,0⟩,1000320),(⟨false,7,0⟩,1000448)]⟩
def oy(a b c d:LI)(e f g h i j l m:Int)(o:LI):St:=am [(1,xb 1),(3,xo 1000192),(4,xo 1000256),(5,xo 1000320),(7,xo 1000448),(16,xi e),(19,xi f),(34,xi g),(35,xi h),(178,xo 1000448),(179,xi i),(180,xi j)] [(1,(30,[yi l,yi m,.sn 3 tI o none]))] [(1000192,(⟨3,.int .i64,a,true,false⟩:ac)),(1000256,(⟨3,.int .i64,b,true,false⟩:ac)),(1000320,(⟨3,.int .i64,c,true,false⟩:ac)),(1000448,(⟨3,.int .i64,d,true,false⟩:ac))]
def yd:aa:=⟨[1,3,4,5,7,16,19,34,35,178,179,180],[1],[],[],[(⟨false,3,0⟩,1000192),(⟨false,4,0⟩,1000256),(⟨false,5,0⟩,1000320),(⟨false,7,0⟩,1000448)]⟩
def lN(a b c d:LI)(e f g h i:Int)(j:LI):St:=am [(1,xb 1),(3,xo 1000192),(4,xo 1000256),(5,xo 1000320),(7,xo 1000448),(19,xi e),(34,xi f),(35,xi g)] [(1,(30,[yi h,yi i,.sn 3 tI j none]))] [(1000192,(⟨3,.int .i64,a,true,false⟩:ac)),(1000256,(⟨3,.int .i64,b,true,false⟩:ac)),(1000320,(⟨3,.int .i64,c,true,false⟩:ac)),(1000448,(⟨3,.int .i64,d,true,false⟩:ac))]
def sM:aa:=⟨[1,3,4,5,7,19,34,35],[1],[],[],[(⟨false,3,0⟩,1000192),(⟨false,4,0⟩,1000256),(⟨false,5,0⟩,1000320),(⟨false,7,0⟩,1000448)]⟩
def oz(a b c d:LI)(e f g h i j l:Int)(m:LI):St:=am [(1,xb 1),(3,xo 1000192),(4,xo 1000256),(5,xo 1000320),(19,xi e),(34,xi f),(35,xi g),(205,xo 1013120),(206,xi h),(207,xi i)] [(1,(30,[yi j,yi l,.sn 3 tI m none]))] [(1000192,(⟨3,.int .i64,a,true,false⟩:ac)),(1000256,(⟨3,.int .i64,b,true,false⟩:ac)),(1000320,(⟨3,.int .i64,c,true,false⟩:ac)),(1013120,(⟨3,.int .i64,d,true,false⟩:ac))]
def ye:aa:=⟨[1,3,4,5,19,34,35,205,206,207],[1],[],[],[(⟨false,3,0⟩,1000192),(⟨false,4,0⟩,1000256),(⟨false,5,0⟩,1000320),(⟨false,205,0⟩,1013120)]⟩
def jY(a:LI):St:=am [(5,xo 1000320)] [] [(1000320,(⟨3,.int .i64,a,true,false⟩:ac))]
def sN:aa:=⟨[5],[],[],[],[(⟨false,5,0⟩,1000320)]⟩
def cU(a:LI):St:=am [(2,xo 1001000128)] [] [(1001000128,(⟨3,.int .i64,a,true,true⟩:ac))]
def LK:aa:=⟨[2],[],[⟨⟨false,2,0⟩,30000000,3,.int .i64,true⟩],[],[(⟨false,2,0⟩,1001000128)]⟩
def LN:Nat->Option aa:=aw [(5,jX),(4,gS),(3,gS),(2,ou),(6,ow),(8,sM),(10,gQ),(1,gQ),(0,sN),(1000000,LK)]
abbrev bI{J:Type}(N n:Nat)(U:St)(l:aa)(K:KT J):Option J:=ah xS aZ LN N (aT 99 (a6 Try.f76) n) .n U (aq (some l) K)
def LO N a (K:KT J):bI N 2 (LA a) LB K =
 aA.Z1 N a (λb c d=>K .nrm (xT b c d)):=by kernel_rfl
def LP N a b c (K:KT J):bI N 5 (xT a b c) LC K =
 aA.Z3 N a b c (λd e a b c=>K .nrm (xU d e a b c)):=by kernel_rfl
def LQ N a b c d e (K:KT J):bI N 11 (xU a b c d e) LD K =
 aA.Z5 N a b c d e (λa b f c d e=>K .nrm (xV a b f c d e)):=by kernel_rfl
def LR N a b c d e f (K:KT J):bI N 39 (xV a b c d e f) gQ K =
 aA.Z8 N a b c d e f (λa b c g h d e f=>K .nrm (dW a b c g h d e f)):=by kernel_rfl
def LS N a b c d e f g h (K:KT J):bI N 279 (dW a b c d e f g h) LE K =
 aA.Z12 N a b c d e f g h (λa b c d e i f g h=>K .nrm (xW a b c d e i f g h)):=by kernel_rfl
def LT N b c a d e i f g h (K:KT J):bI N 663 (xW b c a d e i f g h) gQ K =
 aA.Z14 N b c a d e i f g h (λb c a d e f g h=>K .nrm (dW b c a d e f g h)) (λa=>K (.exit 0) (jY a)):=by kernel_rfl
def LU N a b c d e f g h (K:KT J):bI N 4503 (dW a b c d e f g h) sL K =
 aA.Z18 N a b c d e f g h (λa b c i d e f g h=>K .nrm (jW a b c i d e f g h)):=by kernel_rfl
def LV N a b c i d e f g h (K:KT J):bI N 10647 (jW a b c i d e f g h) sL K =
 aA.Z20 N a b c i d e f g h (λa b c i d e f g h=>K .nrm (jW a b c i d e f g h)) (λa b c d e f g h=>K (.exit 1) (dW a b c d e f g h)):=by kernel_rfl
def LW N a b c d e f g h i (K:KT J):bI N 22935 (jW a b c d e f g h i) sL K =
 aA.Z22 N a b c d e f g h i (λa b c d e f g h i=>K .nrm (jW a b c d e f g h i)):=by kernel_rfl
def LX N a b c i d e f g h (K:KT J):bI N 47511 (jW a b c i d e f g h) ou K =
 aA.Z24 N a b c i d e f g h (λa b c j d e f g h=>K .nrm (gR a b c j d e f g h)):=by kernel_rfl
def LY N a b c d e f g h i (K:KT J):bI N 162199 (gR a b c d e f g h i) gS K =
 aA.Z27 N a b c d e f g h i (λa b c d j e f g h i=>K .nrm (eF a b c d j e f g h i)):=by kernel_rfl
def LZ N a b c d j e f g h i (K:KT J):bI N 1145239 (eF a b c d j e f g h i) gS K =
 aA.Z31 N a b c d j e f g h i (λa b c d j e f g h i=>K .nrm (eF a b c d j e f g h i)) (λa b c d e f g h i=>K (.exit 2) (gR a b c d e f g h i)):=by kernel_rfl
def L3 N a b c d e f g h i j (K:KT J):bI N 9009559 (eF a b c d e f g h i j) LF K =
 aA.Z35 N a b c d e f g h i j (λa b c d e l f g h i j=>K .nrm (xX a b c d e l f g h i j)):=by kernel_rfl
def L4 N a b c d e f g h i j l (K:KT J):bI N 21592471 (xX a b c d e f g h i j l) jX K =
 aA.Z37 N a b c d e f g h i j l (λa b c d e f g h m o i j l=>K .nrm (fp a b c d e f g h m o i j l)):=by kernel_rfl
def L5 N a b c d e f g h i j l m o (K:KT J):bI N 147421591 (fp a b c d e f g h i j l m o) LG K =
 aA.Z41 N a b c d e f g h i j l m o (λa b c d e f g h i j p l m o=>K .nrm (xY a b c d e f g h i j p l m o)):=by kernel_rfl
def L6 N a b c d e l f g m o p h i j (K:KT J):bI N 348748183 (xY a b c d e l f g m o p h i j) jX K =
 aA.Z43 N a b c d e l f g m o p h i j (λa b c d e l f g m o h i j=>K .nrm (fp a b c d e l f g m o h i j)) (λa b c d e f g h i j=>K (.exit 4) (eF a b c d e f g h i j)):=by kernel_rfl
def L7 N a b c d e f g h i j l m o (K:KT J):bI N 2362014103 (fp a b c d e f g h i j l m o) LH K =
 aA.Z47 N a b c d e f g h i j l m o (λa b c d e f p g h i j l m o=>K .nrm (xZ a b c d e f p g h i j l m o)):=by kernel_rfl
def L8 N a b c d e f g h i j l m o p (K:KT J):bI N 5583239575 (xZ a b c d e f g h i j l m o p) ya K =
 aA.Z49 N a b c d e f g h i j l m o p (λa b c d e f g q r h i j l m o p=>K .nrm (ov a b c d e f g q r h i j l m o p)):=by kernel_rfl
def L9 N a b c d e f p q r g h i j l m o (K:KT J):bI N 12025690519 (ov a b c d e f p q r g h i j l m o) ya K =
 aA.Z51 N a b c d e f p q r g h i j l m o (λa b c d e f p q r g h i j l m o=>K .nrm (ov a b c d e f p q r g h i j l m o)) (λa b c d e f g h i j l m o=>K (.exit 5) (fp a b c d e f g h i j l m o)):=by kernel_rfl
def Ma N a b c d e f p q r g h i j l m o (K:KT J):bI N 16320657815 (ov a b c d e f p q r g h i j l m o) jX K =
 aA.Z52 N a b c d e f p q r g h i j l m o (λa b c d e f g h i j l m o=>K .nrm (fp a b c d e f g h i j l m o)) (λs=>K .ret (cU s)):=by kernel_rfl
def Mb N a b c d e f p q r g h i j l m o (K:KT J):=vQ (λk=>aA.Z51 N a b c d e f p q r g h i j l m o k (λa b c d e f g h i j l m o=>K (.exit 5) (fp a b c d e f g h i j l m o))) (L9 N a b c d e f p q r g h i j l m o _) (u2 λa b c d e f p q r g h i j l m o=>Ma N a b c d e f p q r g h i j l m o K)
def Mc N a b c d e f g h i j l m o p (K:KT J):=vQ (λk=>aA.Z49 N a b c d e f g h i j l m o p k) (L8 N a b c d e f g h i j l m o p _) (u2 λa b c d e f g q r h i j l m o p=>Mb N a b c d e f g q r h i j l m o p K)
def Md N a b c d e f g h i j l m o (K:KT J):=vQ (λk=>aA.Z47 N a b c d e f g h i j l m o k) (L7 N a b c d e f g h i j l m o _) (u1 λa b c d e f p g h i j l m o=>Mc N a b c d e f p g h i j l m o K)
def Me N a b c d e f g h i j l m o (K:KT J):=vB 5 jX K (aA.Z45 N a b c d e f g h i j l m o (λa b c d e f g h i j l m o=>K .nrm (fp a b c d e f g h i j l m o)) (λp=>K .ret (cU p))) (Md N a b c d e f g h i j l m o _) (by kernel_rfl)
def Mf N a b c d e f g h i j l m o (K:KT J):bI N 1019836823 (fp a b c d e f g h i j l m o) jX K =
 aA.Z53 N a b c d e f g h i j l m o (λa b c d e f g h i j l m o=>K .nrm (fp a b c d e f g h i j l m o)):=by kernel_rfl
def Mg N a b c d e f g h i j l m o (K:KT J):=vQ (λk=>aA.Z45 N a b c d e f g h i j l m o k (λp=>K .ret (cU p))) (Me N a b c d e f g h i j l m o _) (nj λa b c d e f g h i j l m o=>Mf N a b c d e f g h i j l m o K)
def Mh N a b c d e l f g m o p h i j (K:KT J):=vQ (λk=>aA.Z43 N a b c d e l f g m o p h i j k (λa b c d e f g h i j=>K (.exit 4) (eF a b c d e f g h i j))) (L6 N a b c d e l f g m o p h i j _) (nj λa b c d e l f g m o h i j=>Mg N a b c d e l f g m o h i j K)
def Mi N a b c d e f g h i j l m o (K:KT J):=vQ (λk=>aA.Z41 N a b c d e f g h i j l m o k) (L5 N a b c d e f g h i j l m o _) (u1 λa b c d e f g h i j p l m o=>Mh N a b c d e f g h i j p l m o K)
def Mj N (K:KT J):=ra K (aA.Z39L N (λa b c d e f g h i j=>K (.exit 4) (eF a b c d e f g h i j)) (λl=>K .ret (cU l))) (λa b c d e m f g o p h i j k=>aA.Z40 N a b c d e m f g o p h i j k (λa b c d e f g h i j=>K (.exit 4) (eF a b c d e f g h i j)) (λl=>K .ret (cU l))) (λF a b c d e m f g o p h i j=>Mi N a b c d e m f g o p h i j _) (by kernel_rfl)
def Mk N a b c d e f g h i j l m o (K:KT J):=vL (fp a b c d e f g h i j l m o) (Mj N (jK gS K) N a b c d e f g h i j l m o) (by kernel_rfl)
def Ml N a b c d e l f g m o h i j (K:KT J):=vB 4 gS K (aA.Z38 N a b c d e l f g m o h i j (λa b c d e f g h i j=>K .nrm (eF a b c d e f g h i j)) (λp=>K .ret (cU p))) (Mk N a b c d e l f g m o h i j _) (by kernel_rfl)
def Mm N a b c d e f g h i j l (K:KT J):=vQ (λk=>aA.Z37 N a b c d e f g h i j l k) (L4 N a b c d e f g h i j l _) (nj λa b c d e f g h m o i j l=>Ml N a b c d e f g h m o i j l K)
def Mn N a b c d e f g h i j (K:KT J):=vQ (λk=>aA.Z35 N a b c d e f g h i j k) (L3 N a b c d e f g h i j _) (uZ λa b c d e l f g h i j=>Mm N a b c d e l f g h i j K)
def Mo N a b c d e f g h i j (K:KT J):=vB 3 gS K (aA.Z33 N a b c d e f g h i j (λa b c d e f g h i j=>K .nrm (eF a b c d e f g h i j)) (λl=>K .ret (cU l))) (Mn N a b c d e f g h i j _) (by kernel_rfl)
def Mp N a b c d e f g h i j (K:KT J):bI N 3766679 (eF a b c d e f g h i j) gS K =
 aA.Z54 N a b c d e f g h i j (λa b c d e f g h i j=>K .nrm (eF a b c d e f g h i j)):=by kernel_rfl
def Mq N a b c d e f g h i j (K:KT J):=vQ (λk=>aA.Z33 N a b c d e f g h i j k (λl=>K .ret (cU l))) (Mo N a b c d e f g h i j _) (jB λa b c d e f g h i j=>Mp N a b c d e f g h i j K)
def Mr N a b c d j e f g h i (K:KT J):=vQ (λk=>aA.Z31 N a b c d j e f g h i k (λa b c d e f g h i=>K (.exit 2) (gR a b c d e f g h i))) (LZ N a b c d j e f g h i _) (jB λa b c d j e f g h i=>Mq N a b c d j e f g h i K)
def Mt N (K:KT J):=u5 K (aA.Z29L N (λa b c d e f g h i=>K (.exit 2) (gR a b c d e f g h i)) (λj=>K .ret (cU j))) (λa b c d l e f g h i k=>aA.Z30 N a b c d l e f g h i k (λa b c d e f g h i=>K (.exit 2) (gR a b c d e f g h i)) (λj=>K .ret (cU j))) (λF a b c d l e f g h i=>Mr N a b c d l e f g h i _) (by kernel_rfl)
def Mu N a b c d e f g h i j (K:KT J):=vL (eF a b c d e f g h i j) (Mt N (jK ou K) N a b c d e f g h i j) (by kernel_rfl)
def Mv N a b c d j e f g h i (K:KT J):=vB 2 ou K (aA.Z28 N a b c d j e f g h i (λa b c d e f g h i=>K .nrm (gR a b c d e f g h i)) (λl=>K .ret (cU l))) (Mu N a b c d j e f g h i _) (by kernel_rfl)
def Mw N a b c d e f g h i (K:KT J):=vQ (λk=>aA.Z27 N a b c d e f g h i k) (LY N a b c d e f g h i _) (jB λa b c d j e f g h i=>Mv N a b c d j e f g h i K)
def Mx N a b c d e f g h i (K:KT J):bI N 194967 (gR a b c d e f g h i) ow K =
 aA.Z56 N a b c d e f g h i (λa b c d j e f g h i=>K .nrm (iM a b c d j e f g h i)):=by kernel_rfl
def My N a b c d e f g h i j (K:KT J):bI N 653719 (iM a b c d e f g h i j) yb K =
 aA.Z59 N a b c d e f g h i j (λa b c d e f g l m h i j=>K .nrm (ox a b c d e f g l m h i j)):=by kernel_rfl
def Mz N a b c d e f g l m h i j (K:KT J):bI N 2488727 (ox a b c d e f g l m h i j) yb K =
 aA.Z62 N a b c d e f g l m h i j (λa b c d e f g l m h i j=>K .nrm (ox a b c d e f g l m h i j)) (λa b c d e f g h i j=>K (.exit 6) (iM a b c d e f g h i j)):=by kernel_rfl
def MA N (K:KT J):=q9 K (aA.Z61L N (λa b c d e f g h i j=>K (.exit 6) (iM a b c d e f g h i j))) (λa b c d e f g l m h i j k=>aA.Z62 N a b c d e f g l m h i j k (λa b c d e f g h i j=>K (.exit 6) (iM a b c d e f g h i j))) (λF a b c d e f g l m h i j=>Mz N a b c d e f g l m h i j _) (by kernel_rfl)
def MB N a b c d e f g h i j l m (K:KT J):=vL (ox a b c d e f g h i j l m) (MA N (jK ow K) N a b c d e f g h i j l m) (by kernel_rfl)
def MC N a b c d e f g l m h i j (K:KT J):=vB 6 ow K (aA.Z60 N a b c d e f g l m h i j (λa b c d e f g h i j=>K .nrm (iM a b c d e f g h i j))) (MB N a b c d e f g l m h i j _) (by kernel_rfl)
def MD N a b c d e f g h i j (K:KT J):=vQ (λk=>aA.Z59 N a b c d e f g h i j k) (My N a b c d e f g h i j _) (u0 λa b c d e f g l m h i j=>MC N a b c d e f g l m h i j K)
def ME N a b c d e f g h i j (K:KT J):bI N 784791 (iM a b c d e f g h i j) LJ K =
 aA.Z64 N a b c d e f g h i j (λa b c d e l f g h i j=>K .nrm (yc a b c d e l f g h i j)):=by kernel_rfl
def MF N a b c d e f g h i j l (K:KT J):bI N 2619799 (yc a b c d e f g h i j l) yd K =
 aA.Z67 N a b c d e f g h i j l (λa b c d e f g h m o i j l=>K .nrm (oy a b c d e f g h m o i j l)):=by kernel_rfl
def MG N a b c d l e f g m o h i j (K:KT J):bI N 9959831 (oy a b c d l e f g m o h i j) yd K =
 aA.Z70 N a b c d l e f g m o h i j (λa b c d l e f g m o h i j=>K .nrm (oy a b c d l e f g m o h i j)) (λa b c d e f g h i j=>K (.exit 8) (lN a b c d e f g h i j)):=by kernel_rfl
def MH N (K:KT J):=ra K (aA.Z69L N (λa b c d e f g h i j=>K (.exit 8) (lN a b c d e f g h i j))) (λa b c d l e f g m o h i j k=>aA.Z70 N a b c d l e f g m o h i j k (λa b c d e f g h i j=>K (.exit 8) (lN a b c d e f g h i j))) (λF a b c d l e f g m o h i j=>MG N a b c d l e f g m o h i j _) (by kernel_rfl)
def MI N a b c d e f g h i j l m o (K:KT J):=vL (oy a b c d e f g h i j l m o) (MH N (jK sM K) N a b c d e f g h i j l m o) (by kernel_rfl)
def MJ N a b c d l e f g m o h i j (K:KT J):=vB 8 sM K (aA.Z68 N a b c d l e f g m o h i j (λa b c d e f g h i j=>K .nrm (lN a b c d e f g h i j))) (MI N a b c d l e f g m o h i j _) (by kernel_rfl)
def MK N a b c d e f g h i j l (K:KT J):=vQ (λk=>aA.Z67 N a b c d e f g h i j l k) (MF N a b c d e f g h i j l _) (nj λa b c d e f g h m o i j l=>MJ N a b c d e f g h m o i j l K)
def ML N a b c j d e f g h i (K:KT J):bI N 3144087 (lN a b c j d e f g h i) ye K =
 aA.Z72 N a b c j d e f g h i (λa b c l d e f m o g h i=>K .nrm (oz a b c l d e f m o g h i)):=by kernel_rfl
def MM N a b c i j d e l m f g h (K:KT J):bI N 10484119 (oz a b c i j d e l m f g h) ye K =
 aA.Z75 N a b c i j d e l m f g h (λa b c i j d e l m f g h=>K .nrm (oz a b c i j d e l m f g h)) (λa b c d e f g h=>K (.exit 10) (dW a b c d e f g h)):=by kernel_rfl
def MN N (K:KT J):=q9 K (aA.Z74L N (λa b c d e f g h=>K (.exit 10) (dW a b c d e f g h))) (λa b c i j d e l m f g h k=>aA.Z75 N a b c i j d e l m f g h k (λa b c d e f g h=>K (.exit 10) (dW a b c d e f g h))) (λF a b c i j d e l m f g h=>MM N a b c i j d e l m f g h _) (by kernel_rfl)
def MO N a b c d e f g h i j l m (K:KT J):=vL (oz a b c d e f g h i j l m) (MN N (jK gQ K) N a b c d e f g h i j l m) (by kernel_rfl)
def MP N a b c i j d e l m f g h (K:KT J):=vB 10 gQ K (aA.Z73 N a b c i j d e l m f g h (λa b c d e f g h=>K .nrm (dW a b c d e f g h))) (MO N a b c i j d e l m f g h _) (by kernel_rfl)
def MQ N a b c j d e f g h i (K:KT J):=vQ (λk=>aA.Z72 N a b c j d e f g h i k) (ML N a b c j d e f g h i _) (u0 λa b c l d e f m o g h i=>MP N a b c l d e f m o g h i K)
def MR N a b c d l e f g h i j (K:KT J):=vQ (λk=>aA.Z66 N a b c d l e f g h i j k) (MK N a b c d l e f g h i j _) (jB λa b c d e f g h i j=>MQ N a b c d e f g h i j K)
def MS N a b c d e f g h i j (K:KT J):=vQ (λk=>aA.Z64 N a b c d e f g h i j k) (ME N a b c d e f g h i j _) (uZ λa b c d e l f g h i j=>MR N a b c d e l f g h i j K)
def MU N a b c d e f g h i j (K:KT J):=vQ (λk=>aA.Z58 N a b c d e f g h i j k) (MD N a b c d e f g h i j _) (jB λa b c d e f g h i j=>MS N a b c d e f g h i j K)
def MV N a b c d e f g h i (K:KT J):=vQ (λk=>aA.Z56 N a b c d e f g h i k) (Mx N a b c d e f g h i _) (jB λa b c d j e f g h i=>MU N a b c d j e f g h i K)
def MW N a b c d e f g h i (K:KT J):=vQ (λk=>aA.Z26 N a b c d e f g h i k (λj=>K .ret (cU j))) (Mw N a b c d e f g h i _) (iE λa b c d e f g h i=>MV N a b c d e f g h i K)
def MX N a b c i d e f g h (K:KT J):=vQ (λk=>aA.Z24 N a b c i d e f g h k) (LX N a b c i d e f g h _) (iE λa b c j d e f g h=>MW N a b c j d e f g h K)
def MY N a b c d e f g h i (K:KT J):=vQ (λk=>aA.Z22 N a b c d e f g h i k) (LW N a b c d e f g h i _) (iE λa b c d e f g h i=>MX N a b c d e f g h i K)
def MZ N a b c i d e f g h (K:KT J):=vQ (λk=>aA.Z20 N a b c i d e f g h k (λa b c d e f g h=>K (.exit 1) (dW a b c d e f g h))) (LV N a b c i d e f g h _) (iE λa b c i d e f g h=>MY N a b c i d e f g h K)
def M0 N a b c d e f g h (K:KT J):=vQ (λk=>aA.Z18 N a b c d e f g h k) (LU N a b c d e f g h _) (iE λa b c i d e f g h=>MZ N a b c i d e f g h K)
def M3 N a b c d e f g h (K:KT J):=vB 1 gQ K (aA.Z16 N a b c d e f g h (λa b c d e f g h=>K .nrm (dW a b c d e f g h)) (λi=>K .ret (cU i))) (M0 N a b c d e f g h _) (by kernel_rfl)
def M4 N a b c d e f g h (K:KT J):bI N 1943 (dW a b c d e f g h) gQ K =
 aA.Z76 N a b c d e f g h (λa b c d e f g h=>K .nrm (dW a b c d e f g h)):=by kernel_rfl
def M5 N a b c d e f g h (K:KT J):=vQ (λk=>aA.Z16 N a b c d e f g h k (λi=>K .ret (cU i))) (M3 N a b c d e f g h _) (jA λa b c d e f g h=>M4 N a b c d e f g h K)
def M6 N b c a d e i f g h (K:KT J):=vQ (λk=>aA.Z14 N b c a d e i f g h k (λa=>K (.exit 0) (jY a))) (LT N b c a d e i f g h _) (jA λb c a d e f g h=>M5 N b c a d e f g h K)
def M7 N a b c d e f g h (K:KT J):=vQ (λk=>aA.Z12 N a b c d e f g h k) (LS N a b c d e f g h _) (iE λa b c d e i f g h=>M6 N a b c d e i f g h K)
def M8 N (K:KT J):=nn K (aA.Z10L N (λa=>K (.exit 0) (jY a)) (λb=>K .ret (cU b))) (λc d a e f g h i k=>aA.Z11 N c d a e f g h i k (λa=>K (.exit 0) (jY a)) (λb=>K .ret (cU b))) (λF c d a e f g h i=>M7 N c d a e f g h i _) (by kernel_rfl)
def M9 N a b c d e f g h (K:KT J):=vL (dW a b c d e f g h) (M8 N (jK sN K) N a b c d e f g h) (by kernel_rfl)
def Na N b c a d e f g h (K:KT J):=vB 0 sN K (aA.Z9 N b c a d e f g h (λa=>K .nrm (jY a)) (λi=>K .ret (cU i))) (M9 N b c a d e f g h _) (by kernel_rfl)
def Nb N a b c d e f (K:KT J):=vQ (λk=>aA.Z8 N a b c d e f k) (LR N a b c d e f _) (jA λa b c g h d e f=>Na N a b c g h d e f K)
def Nc N a (K:KT J):bI N 31 (jY a) Lz K =
 aA.Z77 N a (λb=>K .ret (cU b)):=by kernel_rfl
def Nd N b c a d e f (K:KT J):=vQ (λk=>aA.Z7 N b c a d e f k (λg=>K .ret (cU g))) (Nb N b c a d e f _) (funext λa=>Nc N a K)
def Nf N a b c d e (K:KT J):=vQ (λk=>aA.Z5 N a b c d e k) (LQ N a b c d e _) (jz λa b f c d e=>Nd N a b f c d e K)
def Ng N a b c (K:KT J):=vQ (λk=>aA.Z3 N a b c k) (LP N a b c _) (dB λd e a b c=>Nf N d e a b c K)
def Nh N a (K:KT J):=vQ (λk=>aA.Z1 N a k) (LO N a _) (cM λb c d=>Ng N b c d K)
def Ni(h:aA.Spec):ao Try.prog 76 sK :=
 a7 Try.func76 a8 Ly (λN X K=>Nh N X.1 K) (by kernel_rfl) λX hb hp=>by obtain⟨a,_⟩:=X;obtain⟨N,h⟩:=h a hb.1 hp;exact⟨N,Eq.trans (by kernel_rfl) (h N (Nat.le_refl N))⟩
def Nj:ao Try.prog 76 sK:=Ni aA.ok
def yf:aR:=⟨[⟨.pair (.int .i64) (.pair (.int .i64) (.sl 3 (.int .i64))),true,false⟩],[⟨.bool,false,false⟩]⟩
def yg:aH:=⟨yf,none,λX=>((),((dZ.g X.1),()))⟩
def yh:Gm:=aQ (aQ aY 75 sF) 76 sK
def Nk:an Try.prog yh:=((an.nil).add K3 (by kernel_rfl)).add Nj (by kernel_rfl)
def Nl:aa:=⟨[],[],[],[],[]⟩
def Nm(a:MT):St:=aU yf.ps (a,())
def Nn(a:Bool):St:=am [(2,xB a)] [] []
def No:aa:=⟨[2],[],[],[],[]⟩
def Np:Nat->Option aa:=aw [(1000000,No)]
abbrev Nq{J:Type}(N n:Nat)(U:St)(l:aa)(K:KT J):Option J:=ah yh aZ Np N (aT 99 (a6 Try.f31) n) .n U (aq (some l) K)
def Nr N a (K:KT J):Nq N 1 (Nm a) Nl K =
 dZ.Z0 N a (λb=>K .ret (Nn b)):=by kernel_rfl
def Ns(h:dZ.Spec):ao Try.prog 31 yg :=
 a7 Try.func31 a8 Nk (λN X K=>Nr N X.1 K) (by kernel_rfl) λX hb hp=>by obtain⟨a,_⟩:=X;obtain⟨N,h⟩:=h a hb.1;exact⟨N,Eq.trans (by kernel_rfl) (h N (Nat.le_refl N))⟩
def Nt:ao Try.prog 31 yg:=Ns dZ.ok
def yj:aR:=⟨[⟨.int .i64,false,false⟩],[⟨.bool,false,false⟩]⟩
def sO:aH:=⟨yj,none,λX=>((),((dF.g X.1),()))⟩
def yk:Gm:=aQ aY 70 iL
def Nu:an Try.prog yk:=(an.nil).add lK (by kernel_rfl)
def Nv:aa:=⟨[],[],[],[],[]⟩
def Nw(a:Int):St:=aU yj.ps (a,())
def Nx(a:Bool):St:=am [(2,xB a)] [] []
def Ny:aa:=⟨[2],[],[],[],[]⟩
def Nz:Nat->Option aa:=aw [(1000000,Ny)]
abbrev NA{J:Type}(N n:Nat)(U:St)(l:aa)(K:KT J):Option J:=ah yk aZ Nz N (aT 99 (a6 Try.f122) n) .n U (aq (some l) K)
def NB N a (K:KT J):NA N 1 (Nw a) Nv K =
 dF.Z0 N a (λb=>K .ret (Nx b)):=by kernel_rfl
def NC(h:dF.Spec):ao Try.prog 122 sO :=
 a7 Try.func122 a8 Nu (λN X K=>NB N X.1 K) (by kernel_rfl) λX hb hp=>by obtain⟨a,_⟩:=X;obtain⟨N,h⟩:=h a;exact⟨N,Eq.trans (by kernel_rfl) (h N (Nat.le_refl N))⟩
def ND:ao Try.prog 122 sO:=NC dF.ok
def yl:aR:=⟨[⟨.sl 3 (.int .i64),false,false⟩,⟨.fnc 122,false,false⟩],[⟨.int .i64,false,false⟩]⟩
def sP:aH:=⟨yl,none,λX=>((),((cX.g X.1 X.2.1),()))⟩
def ym:Gm:=aQ aY 122 sO
def NE:an Try.prog ym:=(an.nil).add ND (by kernel_rfl)
def NF:aa:=⟨[],[],[],[],[]⟩
def NG(a:LI)(b:Unit):St:=aU yl.ps (a,(b,()))
def yn(a:LI):St:=am [(0,.c (.sn 3 tI a none)),(1,.c (.fn 122 []))] [] []
def NH:aa:=⟨[0,1],[],[],[],[]⟩
def oA(a:LI)(b d:Int):St:=am [(0,.c (.sn 3 tI a none)),(1,.c (.fn 122 [])),(7,xi b),(8,xi d)] [] []
def yo:aa:=⟨[0,1,7,8],[],[],[],[]⟩
def lO :St:=am [] [] []
def sQ:aa:=⟨[],[],[],[],[]⟩
def jZ(a:Int):St:=am [(4,xi a)] [] []
def NI:aa:=⟨[4],[],[],[],[]⟩
def NJ:Nat->Option aa:=aw [(0,sQ),(1000000,NI)]
abbrev oB{J:Type}(N n:Nat)(U:St)(l:aa)(K:KT J):Option J:=ah ym aZ NJ N (aT 99 (a6 Try.f128) n) .n U (aq (some l) K)
def NK N a b (K:KT J):oB N 2 (NG a b) NH K =
 cX.Z1 N a b (λa=>K .nrm (yn a)):=by kernel_rfl
def NL N a (K:KT J):oB N 9 (yn a) yo K =
 cX.Z4 N a (λa b c=>K .nrm (oA a b c)):=by kernel_rfl
def NM N a b c (K:KT J):oB N 37 (oA a b c) yo K =
 cX.Z7 N a b c (λa b c=>K .nrm (oA a b c)) (K (.exit 0) lO) (λd=>K .ret (jZ d)):=by kernel_rfl
def NN N (K:KT J):=dU K (cX.Z6L N (K (.exit 0) lO) (λa=>K .ret (jZ a))) (λb c d k=>cX.Z7 N b c d k (K (.exit 0) lO) (λa=>K .ret (jZ a))) (λF b c d=>NM N b c d _) (by kernel_rfl)
def NO N a b c (K:KT J):=vL (oA a b c) (NN N (jK sQ K) N a b c) (by kernel_rfl)
def NQ N a b c (K:KT J):=vB 0 sQ K (cX.Z5 N a b c (K .nrm lO) (λd=>K .ret (jZ d))) (NO N a b c _) (by kernel_rfl)
def NR N a (K:KT J):=vQ (λk=>cX.Z4 N a k) (NL N a _) (cM λa b c=>NQ N a b c K)
def NS N  (K:KT J):oB N 7 lO NF K =
 cX.Z8 N (λa=>K .ret (jZ a)):=by kernel_rfl
def NT N a (K:KT J):=vQ (λk=>cX.Z3 N a k (λb=>K .ret (jZ b))) (NR N a _) (NS N K)
def NU N a b (K:KT J):=vQ (λk=>cX.Z1 N a b k) (NK N a b _) (funext λa=>NT N a K)
def NV(h:cX.Spec):ao Try.prog 128 sP :=
 a7 Try.func128 a8 NE (λN X K=>NU N X.1 X.2.1 K) (by kernel_rfl) λX hb hp=>by obtain⟨a,b,_⟩:=X;obtain⟨N,h⟩:=h a b hb.1;exact⟨N,Eq.trans (by kernel_rfl) (h N (Nat.le_refl N))⟩
def NW:ao Try.prog 128 sP:=NV cX.ok
def yp:aR:=⟨[⟨.sl 3 (.int .i64),false,false⟩,⟨.fnc 122,false,false⟩],[⟨.bool,false,false⟩]⟩
def sR:aH:=⟨yp,none,λX=>((),((f5.g X.1 X.2.1),()))⟩
def yq:Gm:=aQ aY 128 sP
def NX:an Try.prog yq:=(an.nil).add NW (by kernel_rfl)
def NY:aa:=⟨[],[],[],[],[]⟩
def NZ(a:LI)(b:Unit):St:=aU yp.ps (a,(b,()))
def N1(a:Bool):St:=am [(4,xB a)] [] []
def N2:aa:=⟨[4],[],[],[],[]⟩
def N3:Nat->Option aa:=aw [(1000000,N2)]
abbrev N4{J:Type}(N n:Nat)(U:St)(l:aa)(K:KT J):Option J:=ah yq aZ N3 N (aT 99 (a6 Try.f108) n) .n U (aq (some l) K)
def N5 N a b (K:KT J):N4 N 1 (NZ a b) NY K =
 f5.Z0 N a b (λc=>K .ret (N1 c)):=by kernel_rfl
def N6(h:f5.Spec):ao Try.prog 108 sR :=
 a7 Try.func108 a8 NX (λN X K=>N5 N X.1 X.2.1 K) (by kernel_rfl) λX hb hp=>by obtain⟨a,b,_⟩:=X;obtain⟨N,h⟩:=h a b hb.1;exact⟨N,Eq.trans (by kernel_rfl) (h N (Nat.le_refl N))⟩
def N7:ao Try.prog 108 sR:=N6 f5.ok
def yr:aR:=⟨[⟨.sl 3 (.int .i64),false,false⟩,⟨.int .i64,false,false⟩],[⟨.bool,false,false⟩]⟩
def sS:aH:=⟨yr,none,λX=>((),((f7.g X.1 X.2.1),()))⟩
def yt:Gm:=aQ aY 108 sR
def N8:an Try.prog yt:=(an.nil).add N7 (by kernel_rfl)
def N9:aa:=⟨[],[],[],[],[]⟩
def Oa(a:LI)(b:Int):St:=aU yr.ps (a,(b,()))
def Ob(a:Bool):St:=am [(4,xB a)] [] []
def Oc:aa:=⟨[4],[],[],[],[]⟩
def Od:Nat->Option aa:=aw [(1000000,Oc)]
abbrev Oe{J:Type}(N n:Nat)(U:St)(l:aa)(K:KT J):Option J:=ah yt aZ Od N (aT 99 (a6 Try.f98) n) .n U (aq (some l) K)
def Of N a b (K:KT J):Oe N 1 (Oa a b) N9 K =
 f7.Z0 N a b (λc=>K .ret (Ob c)):=by kernel_rfl
def Og(h:f7.Spec):ao Try.prog 98 sS :=
 a7 Try.func98 a8 N8 (λN X K=>Of N X.1 X.2.1 K) (by kernel_rfl) λX hb hp=>by obtain⟨a,b,_⟩:=X;obtain⟨N,h⟩:=h a b hb.1;exact⟨N,Eq.trans (by kernel_rfl) (h N (Nat.le_refl N))⟩
def Oh:ao Try.prog 98 sS:=Og f7.ok
def yu:aR:=⟨[⟨.int .i64,false,false⟩],[⟨.bool,false,false⟩]⟩
def sT:aH:=⟨yu,none,λX=>((),((f9.g X.1),()))⟩
def yv:Gm:=aQ aY 70 iL
def Oi:an Try.prog yv:=(an.nil).add lK (by kernel_rfl)
def Oj:aa:=⟨[],[],[],[],[]⟩
def Ok(a:Int):St:=aU yu.ps (a,())
def Ol(a:Bool):St:=am [(2,xB a)] [] []
def Om:aa:=⟨[2],[],[],[],[]⟩
def On:Nat->Option aa:=aw [(1000000,Om)]
abbrev Oo{J:Type}(N n:Nat)(U:St)(l:aa)(K:KT J):Option J:=ah yv aZ On N (aT 99 (a6 Try.f99) n) .n U (aq (some l) K)
def Oq N a (K:KT J):Oo N 1 (Ok a) Oj K =
 f9.Z0 N a (λb=>K .ret (Ol b)):=by kernel_rfl
def Ot(h:f9.Spec):ao Try.prog 99 sT :=
 a7 Try.func99 a8 Oi (λN X K=>Oq N X.1 K) (by kernel_rfl) λX hb hp=>by obtain⟨a,_⟩:=X;obtain⟨N,h⟩:=h a;exact⟨N,Eq.trans (by kernel_rfl) (h N (Nat.le_refl N))⟩
def Ou:ao Try.prog 99 sT:=Ot f9.ok
end Go.Fw
namespace Go.Fw
variable {J : Type}
open Go.Proofs
variable [DC]
def yw:aR:=⟨[⟨.int .i64,false,false⟩],[⟨.bool,false,false⟩]⟩
def sU:aH:=⟨yw,none,λX=>((),((fq.g X.1),()))⟩
def yx:Gm:=aY
def Ov:an Try.prog yx:=an.nil
def Ow:aa:=⟨[],[],[],[],[]⟩
def Ox(a:Int):St:=aU yw.ps (a,())
def Oy(a:Bool):St:=am [(2,xB a)] [] []
def Oz:aa:=⟨[2],[],[],[],[]⟩
def OA:Nat->Option aa:=aw [(1000000,Oz)]
abbrev OB{J:Type}(N n:Nat)(U:St)(l:aa)(K:KT J):Option J:=ah yx aZ OA N (aT 99 (a6 Try.f132) n) .n U (aq (some l) K)
def OC N a (K:KT J):OB N 1 (Ox a) Ow K =
 fq.Z0 N a (λb=>K .ret (Oy b)):=by kernel_rfl
def OD(h:fq.Spec):ao Try.prog 132 sU :=
 a7 Try.func132 a8 Ov (λN X K=>OC N X.1 K) (by kernel_rfl) λX hb hp=>by obtain⟨a,_⟩:=X;obtain⟨N,h⟩:=h a;exact⟨N,Eq.trans (by kernel_rfl) (h N (Nat.le_refl N))⟩
def OE:ao Try.prog 132 sU:=OD fq.ok
def yy:aR:=⟨[⟨.int .i64,false,false⟩,⟨.int .i64,false,false⟩],[⟨.int .i64,false,false⟩]⟩
def sV:aH:=⟨yy,none,λX=>((),((eV.g X.1 X.2.1),()))⟩
def yz:Gm:=aQ aY 132 sU
def OF:an Try.prog yz:=(an.nil).add OE (by kernel_rfl)
def OG:aa:=⟨[],[],[],[],[]⟩
def OH(a b:Int):St:=aU yy.ps (a,(b,()))
def OI(a:Int):St:=am [(4,xi a)] [] []
def OJ:aa:=⟨[4],[],[],[],[]⟩
def OK:Nat->Option aa:=aw [(1000000,OJ)]
abbrev OL{J:Type}(N n:Nat)(U:St)(l:aa)(K:KT J):Option J:=ah yz aZ OK N (aT 99 (a6 Try.f114) n) .n U (aq (some l) K)
def OM N a b (K:KT J):OL N 1 (OH a b) OG K =
 eV.Z0 N a b (λc=>K .ret (OI c)):=by kernel_rfl
def ON(h:eV.Spec):ao Try.prog 114 sV :=
 a7 Try.func114 a8 OF (λN X K=>OM N X.1 X.2.1 K) (by kernel_rfl) λX hb hp=>by obtain⟨a,b,_⟩:=X;obtain⟨N,h⟩:=h a b;exact⟨N,Eq.trans (by kernel_rfl) (h N (Nat.le_refl N))⟩
def OO:ao Try.prog 114 sV:=ON eV.ok
def yA:aR:=⟨[⟨.sl 3 (.int .i64),false,false⟩,⟨.sl 3 (.int .i64),false,false⟩],[⟨.int .i64,false,false⟩]⟩
def sW:aH:=⟨yA,none,λX=>((),((dk.g X.1 X.2.1),()))⟩
def yB:Gm:=aQ aY 114 sV
def OP:an Try.prog yB:=(an.nil).add OO (by kernel_rfl)
def OQ:aa:=⟨[],[],[],[],[]⟩
def OR(a b:LI):St:=aU yA.ps (a,(b,()))
def iN(a b:LI):St:=am [(0,.c (.sn 3 tI a none)),(1,.c (.sn 3 tI b none))] [] []
def oC:aa:=⟨[0,1],[],[],[],[]⟩
def oD(a b d:LI)(e f:Int):St:=am [(0,.c (.sn 3 tI a none)),(1,.c (.sn 3 tI b none)),(9,.c (.sn 3 tI d none)),(10,xi e),(11,xi f)] [] []
def yC:aa:=⟨[0,1,9,10,11],[],[],[],[]⟩
def j0(a:Int):St:=am [(4,xi a)] [] []
def OS:aa:=⟨[4],[],[],[],[]⟩
def OT:Nat->Option aa:=aw [(0,oC),(1000000,OS)]
abbrev oE{J:Type}(N n:Nat)(U:St)(l:aa)(K:KT J):Option J:=ah yB aZ OT N (aT 99 (a6 Try.f87) n) .n U (aq (some l) K)
def OU N a b (K:KT J):oE N 2 (OR a b) oC K =
 dk.Z1 N a b (λa b=>K .nrm (iN a b)):=by kernel_rfl
def OV N a b (K:KT J):oE N 9 (iN a b) yC K =
 dk.Z4 N a b (λa b c d e=>K .nrm (oD a b c d e)):=by kernel_rfl
def OW N a b c d e (K:KT J):oE N 37 (oD a b c d e) yC K =
 dk.Z7 N a b c d e (λa b c d e=>K .nrm (oD a b c d e)) (λa b=>K (.exit 0) (iN a b)) (λf=>K .ret (j0 f)):=by kernel_rfl
def OX N (K:KT J):=iF K (dk.Z6L N (λa b=>K (.exit 0) (iN a b)) (λc=>K .ret (j0 c))) (λa b d e f k=>dk.Z7 N a b d e f k (λa b=>K (.exit 0) (iN a b)) (λc=>K .ret (j0 c))) (λF a b d e f=>OW N a b d e f _) (by kernel_rfl)
def OY N a b c d e (K:KT J):=vL (oD a b c d e) (OX N (jK oC K) N a b c d e) (by kernel_rfl)
def OZ N a b c d e (K:KT J):=vB 0 oC K (dk.Z5 N a b c d e (λa b=>K .nrm (iN a b)) (λf=>K .ret (j0 f))) (OY N a b c d e _) (by kernel_rfl)
def O0 N a b (K:KT J):=vQ (λk=>dk.Z4 N a b k) (OV N a b _) (dB λa b c d e=>OZ N a b c d e K)
def O1 N a b (K:KT J):oE N 7 (iN a b) OQ K =
 dk.Z8 N a b (λc=>K .ret (j0 c)):=by kernel_rfl
def O3 N a b (K:KT J):=vQ (λk=>dk.Z3 N a b k (λc=>K .ret (j0 c))) (O0 N a b _) (bU λa b=>O1 N a b K)
def O4 N a b (K:KT J):=vQ (λk=>dk.Z1 N a b k) (OU N a b _) (bU λa b=>O3 N a b K)
def O5(h:dk.Spec):ao Try.prog 87 sW :=
 a7 Try.func87 a8 OP (λN X K=>O4 N X.1 X.2.1 K) (by kernel_rfl) λX hb hp=>by obtain⟨a,b,_⟩:=X;obtain⟨N,h⟩:=h a b hb.1 hb.2.1;exact⟨N,Eq.trans (by kernel_rfl) (h N (Nat.le_refl N))⟩
def O6:ao Try.prog 87 sW:=O5 dk.ok
end Go.Fw
namespace Go.Fw
variable {J : Type}
open Go.Proofs
def yD:aR:=⟨[⟨.pair (.int .i64) (.sl 107 (.pair (.sl 3 (.int .i64)) (.int .i64))),true,false⟩],[⟨.bool,false,false⟩]⟩
def yE:aH:=⟨yD,none,λX=>((),((cq.g X.1),()))⟩
def yF:Gm:=aQ (aQ (aQ (aQ aY 70 iL) 87 sW) 98 sS) 99 sT
def O7:an Try.prog yF:=((((an.nil).add lK (by kernel_rfl)).add O6 (by kernel_rfl)).add Oh (by kernel_rfl)).add Ou (by kernel_rfl)
def O8:aa:=⟨[],[],[],[],[]⟩
def O9(a:Int×List (LI×Int)):St:=aU yD.ps (a,())
def oF(a:Int)(b:List (LI×Int)):St:=am [(1,xb 1)] [(1,(71,[yi a,.sn 107 (.pair (.sl 3 tI) tI) b none]))] []
def yG:aa:=⟨[1],[1],[],[],[]⟩
def oG(a:List (LI×Int))(b d e:Int)(f:List (LI×Int)):St:=am [(1,xb 1),(16,.c (.sn 107 (.pair (.sl 3 tI) tI) a none)),(17,xi b),(18,xi d)] [(1,(71,[yi e,.sn 107 (.pair (.sl 3 tI) tI) f none]))] []
def yH:aa:=⟨[1,16,17,18],[1],[],[],[]⟩
def lP :St:=am [] [] []
def sX:aa:=⟨[],[],[],[],[]⟩
def gT(a:Bool):St:=am [(2,xB a)] [] []
def Pa:aa:=⟨[2],[],[],[],[]⟩
def Pb:Nat->Option aa:=aw [(0,sX),(1000000,Pa)]
abbrev lQ{J:Type}(N n:Nat)(U:St)(l:aa)(K:KT J):Option J:=ah yF aZ Pb N (aT 99 (a6 Try.f56) n) .n U (aq (some l) K)
def Pc N a (K:KT J):lQ N 2 (O9 a) yG K =
 cq.Z1 N a (λb c=>K .nrm (oF b c)):=by kernel_rfl
def Pd N a b (K:KT J):lQ N 5 (oF a b) yG K =
 cq.Z3 N a b (λa b=>K .nrm (oF a b)) (λc=>K .ret (gT c)):=by kernel_rfl
def Pe N a b (K:KT J):lQ N 19 (oF a b) yH K =
 cq.Z6 N a b (λc d e a b=>K .nrm (oG c d e a b)):=by kernel_rfl
def Pf N a b c d e (K:KT J):lQ N 75 (oG a b c d e) yH K =
 cq.Z9 N a b c d e (λa b c d e=>K .nrm (oG a b c d e)) (K (.exit 0) lP) (λf=>K .ret (gT f)):=by kernel_rfl
def Pg N (K:KT J):=iF K (cq.Z8L N (K (.exit 0) lP) (λa=>K .ret (gT a))) (λb c d e f k=>cq.Z9 N b c d e f k (K (.exit 0) lP) (λa=>K .ret (gT a))) (λF b c d e f=>Pf N b c d e f _) (by kernel_rfl)
def Ph N a b c d e (K:KT J):=vL (oG a b c d e) (Pg N (jK sX K) N a b c d e) (by kernel_rfl)
def Pi N a b c d e (K:KT J):=vB 0 sX K (cq.Z7 N a b c d e (K .nrm lP) (λf=>K .ret (gT f))) (Ph N a b c d e _) (by kernel_rfl)
def Pj N a b (K:KT J):=vQ (λk=>cq.Z6 N a b k) (Pe N a b _) (dB λc d e a b=>Pi N c d e a b K)
def Pk N  (K:KT J):lQ N 15 lP O8 K =
 cq.Z10 N (λa=>K .ret (gT a)):=by kernel_rfl
def Pl N a b (K:KT J):=vQ (λk=>cq.Z5 N a b k (λc=>K .ret (gT c))) (Pj N a b _) (Pk N K)
def Pm N a b (K:KT J):=vQ (λk=>cq.Z3 N a b k (λc=>K .ret (gT c))) (Pd N a b _) (bU λa b=>Pl N a b K)
def Pn N a (K:KT J):=vQ (λk=>cq.Z1 N a k) (Pc N a _) (bU λb c=>Pm N b c K)
def Po(h:cq.Spec):ao Try.prog 56 yE :=
 a7 Try.func56 a8 O7 (λN X K=>Pn N X.1 K) (by kernel_rfl) λX hb hp=>by obtain⟨a,_⟩:=X;obtain⟨N,h⟩:=h a hb.1;exact⟨N,Eq.trans (by kernel_rfl) (h N (Nat.le_refl N))⟩
def Pp:ao Try.prog 56 yE:=Po cq.ok
def Pq:aR:=⟨[⟨.pair (.pair (.int .i64) (.pair (.int .i64) (.sl 3 (.int .i64)))) (.sl 71 (.pair (.int .i64) (.sl 107 (.pair (.sl 3 (.int .i64)) (.int .i64))))),true,false⟩],[⟨.bool,false,false⟩]⟩
def sY:aH:=⟨Pq,none,λX=>((),((dm.g X.1),()))⟩
section
open Go.Shelf Go.RowKit Go.Lib
abbrev iO:Ty:=.pair (.int .i64) (.sl 107 (.pair (.sl 3 (.int .i64)) (.int .i64)))
def yI{w w':World}{sig:aR}{args:List Value}{y:bM sig.ps}{Y:aj sig.rs}{v:Value}{vs:List Value}{L' Lr:List Nat}(h:mq w sig args [] y Y v w' vs L' Lr){n:Nat}(hn:n<=w.heap.size):Below n w w' :=
 ⟨h.os,h.tape.tape,h.output,h.size,λk hk=>h.old k (Nat.lt_of_lt_of_le hk hn) (by simp)⟩
def yJ{w':World}{vs:List Value}{b:Bool}{Lr:List Nat}{v:Value}(h:gl w' [⟨.bool,false,false⟩] vs (b,()) Lr)(hv:gm vs v):v=.bool b:=by
 match vs,h with
 |[],h=>exact h.elim
 |_::_::_,h=>obtain⟨_,_,_,_,_,_,_,h⟩:=h;exact h.elim
 |[u],h =>obtain⟨cs,L1,L2,_,h1,h2,_⟩:=h;have h1:cs=[u]:=h1;subst h1;have h2:[u]=[Value.bool b]/\_:=h2;have:=h2.1;simp only[List.cons.injEq,and_true]at this;have hv:v=u:=hv;rw[hv,this]
def Pr{w:World}{S:Nat->Prop}{cs:List Value}{x:iO.den}(hr:Rd w S iO cs x):Calls Try.prog 56 #[.agg cs.toArray] w λe w'=>e=.returned (.bool (cq.g x))/\Below w.heap.size w w':=by
 have hE:=Pp w #[.agg cs.toArray] [] (x,()) () (cq.g x,()) ⟨⟨cs,⟨_,rfl,by simp⟩,hr.mono λ_ _=>by simp⟩,trivial⟩ (λ_=>rfl) List.nodup_nil (λk hk=>by cases hk) rfl trivial (λk hk=>by cases hk);have eg:∀args w,(callFunc 56 args).run Try.prog w=.ok (.enter 56 args) w:=enters_of Try.func56 (by kernel_rfl) rfl;rcases hE with⟨_,h⟩|⟨v,w',h,_⟩
 ·refine h.mono ?_;rintro e w' ⟨v,vs,L',Lr,rfl,hA⟩
  exact⟨by rw[yJ hA.res hA.ret],yI hA (Nat.le_refl _)⟩
 ·rw[eg]at h;cases h
def Ps{w:World}{S:Nat->Prop}{B:Nat}{rows:Int}(hB:B<w.heap.size)(hcell:w.cell? ⟨B,1,none⟩=some (.int .i64 rows)){W:World}{cs:List Value}{x:iO.den}(hb:Below w.heap.size w W)(hr:Rd W S iO cs x) :
  Calls Try.prog 55 (#[.agg cs.toArray]++#[.pointer (some ⟨B,0,none⟩)]) W λe w'=>e=.returned (.bool (!cq.g x||(decide (x.2.length=0)||!decide (x.1=rows))))/\Below w.heap.size w w':=by
 have hc:W.cell? ⟨B,1,none⟩=some (.int .i64 rows):=(hb.cell (p:=⟨B,1,none⟩) hB).trans hcell;have hBW:B<W.heap.size:=Nat.lt_of_lt_of_le hB hb.size;have hne:B≠W.heap.size:=by omega
 obtain⟨c1,c2,rfl,k1,k2⟩:=id hr;have k1:c1=[.int .i64 x.1]:=k1;obtain⟨A,n,c,k2,k3,_⟩:=k2;subst k1 k2;show Calls Try.prog 55 #[.agg #[.int .i64 x.1,.slice A n c],.pointer (some ⟨B,0,none⟩)] W _;have hcall:=Pr (w:=W.alloc (.cells #[.int .i64 x.1,.slice A n c] 71)) (S:=λk=>S k/\k<W.heap.size) (cs:=[.int .i64 x.1,.slice A n c]) (x:=x) (hr.lt.frame λk hk _=>((Below.refl _ W).alloc (Nat.le_refl _) _).block k hk.2);change Calls Try.prog 56 #[.agg #[.int .i64 x.1,.slice A n c]] _ _ at hcall;clear hr;have hlen:x.2.length=n:=k3;generalize cq.g x=q at hcall ⊢;have hs:(W.alloc (.cells #[.int .i64 x.1,.slice A n c] 71)).heap.size=W.heap.size+1:=by simp
 have z0:(W.alloc (.cells #[.int .i64 x.1,.slice A n c] 71)).cell? ⟨W.heap.size,0,none⟩=some (.int .i64 x.1):=(World.cell?_alloc_at _ _ _ 0 rfl).trans rfl;have z1:(W.alloc (.cells #[.int .i64 x.1,.slice A n c] 71)).cell? ⟨W.heap.size,1,none⟩=some (.slice A n c):=(World.cell?_alloc_at _ _ _ 1 rfl).trans rfl;have z2:(W.alloc (.cells #[.int .i64 x.1,.slice A n c] 71)).cell? ⟨B,1,none⟩=some (.int .i64 rows):=by rw[<-hc];exact((Below.refl _ W).alloc (Nat.le_refl _) _).cell hBW
 have hb2:Below w.heap.size w (W.alloc (.cells #[.int .i64 x.1,.slice A n c] 71)):=hb.alloc hb.size _;have hlen:x.2.length=n:=k3;generalize hx1:x.1=x1 at hcall z0 z1 z2 hb2 hs ⊢;generalize x.2.length=x2 at hlen ⊢;clear hx1 hcell k3 k1 hc;subst hlen;go_enter Try.func55,Try.ntmps55
 go_wp2_with (go_at_call 56;refine hcall.mono ?_;rintro e w' ⟨rfl,hb'⟩;have f0:=(hb'.cell (p:=⟨W.heap.size,0,none⟩) (by rw[hs];exact Nat.lt_succ_self _)).trans z0;have f1:=(hb'.cell (p:=⟨W.heap.size,1,none⟩) (by rw[hs];exact Nat.lt_succ_self _)).trans z1;have f2:=(hb'.cell (p:=⟨B,1,none⟩) (by rw[hs];exact Nat.lt_succ_of_lt hBW)).trans z2)
 all_goals go_ret
 all_goals refine⟨?_,hb2.trans (hb'.mono (by have:=hb.size;omega))⟩
 ·have e:x2=0:=by simp_all
  subst e;simp_all
 ·have e1:((x2:Int) == 0)=decide (x2=0):=by by_cases h:x2=0<;>simp[h]
  have e2:(x1 != rows)=!decide (x1=rows):=by by_cases h:x1=rows<;>simp[h]
  simp_all
 ·simp_all
def Pt:Go.Shelf.Ren:=⟨λ|8=>54|6=>97|n=>n,λ|22=>31|23=>71|25=>68|4=>4|3=>3|0=>0|n=>n,λn=>n⟩
def Pu:SlLaysH0.n8 Try.prog Pt:={ mixed:=(by kernel_rfl),f6:=⟨Try.f97.name,(by kernel_rfl),Try.func97.trans (congrArg some (by kernel_rfl))⟩,f8:=⟨Try.f54.name,(by kernel_rfl),Try.func54.trans (congrArg some (by kernel_rfl))⟩,t0:=Try.underlying0,a0:=Try.isAgg0,z0:=Try.sizeOf0,v0:=Try.zeroValue0,t3:=Try.underlying3,a3:=Try.isAgg3,z3:=Try.sizeOf3,v3:=Try.zeroValue3,t4:=Try.underlying4,a4:=Try.isAgg4,z4:=Try.sizeOf4,v4:=Try.zeroValue4,t22:=Try.underlying31,a22:=Try.isAgg31,z22:=Try.sizeOf31,v22:=Try.zeroValue31,t25:=Try.underlying68,a25:=Try.isAgg68,z25:=Try.sizeOf68,v25:=Try.zeroValue68 }
abbrev sZ:Ty:=.pair (.pair (.int .i64) (.pair (.int .i64) (.sl 3 (.int .i64)))) (.sl 71 (.pair (.int .i64) (.sl 107 (.pair (.sl 3 (.int .i64)) (.int .i64)))))
abbrev yK:Ty:=.pair (.int .i64) (.pair (.int .i64) (.sl 3 (.int .i64)))
def Pv{w:World}{S:Nat->Prop}{cs:List Value}{x:yK.den}(hr:Rd w S yK cs x):Calls Try.prog 31 #[.agg cs.toArray] w λe w'=>e=.returned (.bool (dZ.g x))/\Below w.heap.size w w':=by
 have hE:=Nt w #[.agg cs.toArray] [] (x,()) () (dZ.g x,()) ⟨⟨cs,⟨_,rfl,by simp⟩,hr.mono λ_ _=>by simp⟩,trivial⟩ (λ_=>rfl) List.nodup_nil (λk hk=>by cases hk) rfl trivial (λk hk=>by cases hk);have eg:∀args w,(callFunc 31 args).run Try.prog w=.ok (.enter 31 args) w:=enters_of Try.func31 (by kernel_rfl) rfl;rcases hE with⟨_,h⟩|⟨v,w',h,_⟩
 ·refine h.mono ?_;rintro e w' ⟨v,vs,L',Lr,rfl,hA⟩
  exact⟨by rw[yJ hA.res hA.ret],yI hA (Nat.le_refl _)⟩
 ·rw[eg]at h;cases h
def Pw{w:World}{S:Nat->Prop}{B:Nat}{rows:Int}(hB:B<w.heap.size)(hcell:w.cell? ⟨B,1,none⟩=some (.int .i64 rows)){A:Option Addr}{n c:Nat}{xs:List iO.den}(hr:Rd w S (.sl 71 iO) [.slice A n c] xs)(hpos:0<xs.length) :
  Calls Try.prog 54 #[.slice A n c,.func (.func 55) #[] #[.pointer (some ⟨B,0,none⟩)]] w λe w'=>e=.returned (.bool (xs.any (dm.badL rows)))/\Below w.heap.size w w' :=
 By Pu (t:=iO) Try.isAgg71 Try.sizeOf71 55 #[.pointer (some ⟨B,0,none⟩)] (enters_of Try.func55 (by kernel_rfl) rfl) (0,[]) hr hpos (dm.badL rows)
  (λW cs x hb hr=>Ps hB hcell hb hr)
def Px{m:Int×Int×List Int}(h:dZ.g m=true):1<=m.2.1:=by have h:(cI m&&!decide (ca m=[]))=true:=h;rw[Bool.and_eq_true]at h;obtain⟨n,r,hn,hr,hn1,hn5,hnr,hr8,hl⟩:=cx (eE h.1);omega
def Py{w:World}{S:Nat->Prop}{cs:List Value}{s:sZ.den}(hr:Rd w S sZ cs s):Calls Try.prog 14 #[.agg cs.toArray] w λe w'=>e=.returned (.bool (dm.g s))/\Below w.heap.size w w':=by
 obtain⟨c1,c2,rfl,k1,k2⟩:=hr.lt;obtain⟨d1,d2,rfl,j1,j2⟩:=id k1;obtain⟨b1,b2,rfl,i1,i2⟩:=id j2;have j1:d1=[.int .i64 s.1.1]:=j1;have i1:b1=[.int .i64 s.1.2.1]:=i1;obtain⟨Ad,nd,cd,i2,_⟩:=id i2;obtain⟨Av,nv,cv,k2e,k3,_⟩:=id k2;subst j1 i1 i2 k2e;change Calls Try.prog 14 #[.agg #[.int .i64 s.1.1,.int .i64 s.1.2.1,.slice Ad nd cd,.slice Av nv cv]] w _;have hm:=Pv (w:=w.alloc (.cells #[.int .i64 s.1.1,.int .i64 s.1.2.1,.slice Ad nd cd,.slice Av nv cv] 33)) (S:=λk=>S k/\k<w.heap.size) (cs:=[.int .i64 s.1.1,.int .i64 s.1.2.1,.slice Ad nd cd]) (x:=s.1) (k1.frame λk hk _=>((Below.refl _ w).alloc (Nat.le_refl _) _).block k hk.2);change Calls Try.prog 31 #[.agg #[.int .i64 s.1.1,.int .i64 s.1.2.1,.slice Ad nd cd]] _ _ at hm;have hs:(w.alloc (.cells #[.int .i64 s.1.1,.int .i64 s.1.2.1,.slice Ad nd cd,.slice Av nv cv] 33)).heap.size=w.heap.size+1:=by simp
 have hb1:Below w.heap.size w (w.alloc (.cells #[.int .i64 s.1.1,.int .i64 s.1.2.1,.slice Ad nd cd,.slice Av nv cv] 33)):=(Below.refl _ w).alloc (Nat.le_refl _) _;have z0:(w.alloc (.cells #[.int .i64 s.1.1,.int .i64 s.1.2.1,.slice Ad nd cd,.slice Av nv cv] 33)).cell? ⟨w.heap.size,1,none⟩=some (.int .i64 s.1.2.1):=(World.cell?_alloc_at _ _ _ 1 rfl).trans rfl;have z1:(w.alloc (.cells #[.int .i64 s.1.1,.int .i64 s.1.2.1,.slice Ad nd cd,.slice Av nv cv] 33)).cell? ⟨w.heap.size,3,none⟩=some (.slice Av nv cv):=(World.cell?_alloc_at _ _ _ 3 rfl).trans rfl;have hcon:0<s.2.length->∀w',Below (w.alloc (.cells #[.int .i64 s.1.1,.int .i64 s.1.2.1,.slice Ad nd cd,.slice Av nv cv] 33)).heap.size (w.alloc (.cells #[.int .i64 s.1.1,.int .i64 s.1.2.1,.slice Ad nd cd,.slice Av nv cv] 33)) w' ->
   Calls Try.prog 54 #[.slice Av nv cv,.func (.func 55) #[] #[.pointer (some ⟨w.heap.size,0,none⟩)]] w' λe w2=>e=.returned (.bool (s.2.any (dm.badL s.1.2.1)))/\Below w'.heap.size w' w2:=λhpos w' hb' =>
  Pw (S:=λk=>S k/\k<w.heap.size) (Nat.lt_of_lt_of_le (by rw[hs];exact Nat.lt_succ_self _) hb'.size) ((hb'.cell (p:=⟨w.heap.size,1,none⟩) (by rw[hs];exact Nat.lt_succ_self _)).trans z0) (k2.frame λk hk _=>(hb'.block k (by rw[hs];omega)).trans (hb1.block k hk.2)) hpos
 have hrow:=Px (m:=s.1);unfold dm.g;generalize s.2.any (dm.badL s.1.2.1)=bad at hcon ⊢;generalize dZ.g s.1=q at hm hrow ⊢;generalize hrw:s.1.2.1=rows at hm z0 z1 hs hb1 hrow hcon ⊢;generalize s.1.1=N0 at hm z0 z1 hs hb1 hcon ⊢;have k3:s.2.length=nv:=k3;generalize s.2.length=ln at k3 hcon ⊢;clear k1 k2 j2 hr;subst k3;clear hrw;cases q with
 |false =>
  go_enter Try.func14,Try.ntmps14
  go_wp2_with (go_at_call 31;refine hm.mono ?_;rintro e w' ⟨rfl,hb'⟩)
  go_ret
  exact⟨by simp_all,hb1.trans (hb'.mono (by omega))⟩
 |true =>
  have hrow:=hrow rfl;by_cases hl:(ln:Int)=rows
  ·have hcon:=hcon (by omega);go_enter Try.func14,Try.ntmps14
   go_wp2_with (first | (go_at_call 31;refine hm.mono ?_;rintro e w' ⟨rfl,hb'⟩;have f0:=(hb'.cell (p:=⟨w.heap.size,1,none⟩) (by rw[hs];exact Nat.lt_succ_self _)).trans z0;have f1:=(hb'.cell (p:=⟨w.heap.size,3,none⟩) (by rw[hs];exact Nat.lt_succ_self _)).trans z1) | (go_at_call 54;refine(hcon _ hb').mono ?_;rintro e2 w2 ⟨rfl,hb2⟩))
   go_ret
   exact⟨by simp_all,hb1.trans ((hb'.mono (by omega)).trans (hb2.mono (by have:=hb'.size;omega)))⟩
  ·go_enter Try.func14,Try.ntmps14
   go_wp2_with (go_at_call 31;refine hm.mono ?_;rintro e w' ⟨rfl,hb'⟩;have f0:=(hb'.cell (p:=⟨w.heap.size,1,none⟩) (by rw[hs];exact Nat.lt_succ_self _)).trans z0;have f1:=(hb'.cell (p:=⟨w.heap.size,3,none⟩) (by rw[hs];exact Nat.lt_succ_self _)).trans z1)
   go_ret
   exact⟨by simp_all,hb1.trans (hb'.mono (by omega))⟩
def Pz(_:True):ao Try.prog 14 sY:=by
 intro w args LL X y Y ha hno hnd hlt hG hI hB;obtain⟨args⟩:=args;obtain⟨s,u⟩:=X;have hL:LL=[]:=hno rfl;subst hL;have hG:some ((),(dm.g s,()))=some (y,Y):=hG;injection hG with hG;injection hG with hy hY;subst hY;match args,ha with
 |[],ha=>exact ha.elim
 |_::_::_,ha=>exact ha.2.elim
 |[v],ha =>
  obtain⟨⟨cs,⟨arr,h1,h2⟩,h3⟩,_⟩:=ha;have h1:v=.agg arr:=h1;have h3:Rd w (λk=>k∉([]:List Nat)) sZ cs s:=h3;subst h1;obtain⟨l⟩:=arr;have h2:l=cs:=h2;subst h2;have eg:∀args w,(callFunc 14 args).run Try.prog w=.ok (.enter 14 args) w:=enters_of Try.func14 (by kernel_rfl) rfl;refine .inl ⟨eg _ _,(Py h3).mono ?_⟩;rintro e w' ⟨rfl,hb⟩
  exact⟨_,[.bool (dm.g s)],[],[],rfl,rfl,⟨_,[],[],rfl,rfl,⟨rfl,rfl⟩,trivial,rfl⟩,rfl,List.nodup_nil,(λk hk=>by cases hk),(λk hk=>by cases hk),hb.os,⟨hb.tape,λd=>d.elim⟩,hb.output,hb.size,λk' hk _=>hb.block k' hk⟩
end
def PA:ao Try.prog 14 sY:=Pz dm.ok
def yL:aR:=⟨[⟨.sl 3 (.int .i64),false,false⟩,⟨.sl 3 (.int .i64),false,false⟩],[⟨.bool,false,false⟩]⟩
def oH:aH:=⟨yL,none,λX=>((),((cD.g X.1 X.2.1),()))⟩
def yM:Gm:=aY
def PB:an Try.prog yM:=an.nil
def PC:aa:=⟨[],[],[],[],[]⟩
def PD(a b:LI):St:=aU yL.ps (a,(b,()))
def oI(a b:LI):St:=am [(0,.c (.sn 3 tI a none)),(1,.c (.sn 3 tI b none))] [] []
def yN:aa:=⟨[0,1],[],[],[],[]⟩
def oJ(a b:LI)(d:Int):St:=am [(0,.c (.sn 3 tI a none)),(1,.c (.sn 3 tI b none)),(5,xi d)] [] []
def yO:aa:=⟨[0,1,5],[],[],[],[]⟩
def lR :St:=am [] [] []
def s0:aa:=⟨[],[],[],[],[]⟩
def gU(a:Bool):St:=am [(4,xB a)] [] []
def PE:aa:=⟨[4],[],[],[],[]⟩
def PF:Nat->Option aa:=aw [(0,s0),(1000000,PE)]
abbrev lS{J:Type}(N n:Nat)(U:St)(l:aa)(K:KT J):Option J:=ah yM aZ PF N (aT 99 (a6 Try.f37) n) .n U (aq (some l) K)
def PG N a b (K:KT J):lS N 2 (PD a b) yN K =
 cD.Z1 N a b (λa b=>K .nrm (oI a b)):=by kernel_rfl
def PH N a b (K:KT J):lS N 5 (oI a b) yN K =
 cD.Z3 N a b (λa b=>K .nrm (oI a b)) (λc=>K .ret (gU c)):=by kernel_rfl
def PI N a b (K:KT J):lS N 19 (oI a b) yO K =
 cD.Z6 N a b (λa b c=>K .nrm (oJ a b c)):=by kernel_rfl
def PJ N a b c (K:KT J):lS N 75 (oJ a b c) yO K =
 cD.Z9 N a b c (λa b c=>K .nrm (oJ a b c)) (K (.exit 0) lR) (λd=>K .ret (gU d)):=by kernel_rfl
def PK N (K:KT J):=dU K (cD.Z8L N (K (.exit 0) lR) (λa=>K .ret (gU a))) (λb c d k=>cD.Z9 N b c d k (K (.exit 0) lR) (λa=>K .ret (gU a))) (λF b c d=>PJ N b c d _) (by kernel_rfl)
def PL N a b c (K:KT J):=vL (oJ a b c) (PK N (jK s0 K) N a b c) (by kernel_rfl)
def PM N a b c (K:KT J):=vB 0 s0 K (cD.Z7 N a b c (K .nrm lR) (λd=>K .ret (gU d))) (PL N a b c _) (by kernel_rfl)
def PN N a b (K:KT J):=vQ (λk=>cD.Z6 N a b k) (PI N a b _) (cM λa b c=>PM N a b c K)
def PO N  (K:KT J):lS N 15 lR PC K =
 cD.Z10 N (λa=>K .ret (gU a)):=by kernel_rfl
def PP N a b (K:KT J):=vQ (λk=>cD.Z5 N a b k (λc=>K .ret (gU c))) (PN N a b _) (PO N K)
def PQ N a b (K:KT J):=vQ (λk=>cD.Z3 N a b k (λc=>K .ret (gU c))) (PH N a b _) (bU λa b=>PP N a b K)
def PR N a b (K:KT J):=vQ (λk=>cD.Z1 N a b k) (PG N a b _) (bU λa b=>PQ N a b K)
def PS(h:cD.Spec):ao Try.prog 37 oH :=
 a7 Try.func37 a8 PB (λN X K=>PR N X.1 X.2.1 K) (by kernel_rfl) λX hb hp=>by obtain⟨a,b,_⟩:=X;obtain⟨N,h⟩:=h a b hb.1 hb.2.1;exact⟨N,Eq.trans (by kernel_rfl) (h N (Nat.le_refl N))⟩
def yP:ao Try.prog 37 oH:=PS cD.ok
def yQ:aR:=⟨[⟨.pair (.int .i64) (.pair (.int .i64) (.sl 3 (.int .i64))),true,false⟩,⟨.pair (.int .i64) (.pair (.int .i64) (.sl 3 (.int .i64))),true,false⟩],[⟨.bool,false,false⟩]⟩
def s4:aH:=⟨yQ,none,λX=>((),((gb.g X.1 X.2.1),()))⟩
def yR:Gm:=aQ aY 37 oH
def PU:an Try.prog yR:=(an.nil).add yP (by kernel_rfl)
def PV:aa:=⟨[],[],[],[],[]⟩
def PW(a b:MT):St:=aU yQ.ps (a,(b,()))
def PX(a:Bool):St:=am [(4,xB a)] [] []
def PY:aa:=⟨[4],[],[],[],[]⟩
def PZ:Nat->Option aa:=aw [(1000000,PY)]
abbrev P0{J:Type}(N n:Nat)(U:St)(l:aa)(K:KT J):Option J:=ah yR aZ PZ N (aT 99 (a6 Try.f21) n) .n U (aq (some l) K)
def P1 N a b (K:KT J):P0 N 1 (PW a b) PV K =
 gb.Z0 N a b (λc=>K .ret (PX c)):=by kernel_rfl
def P2(h:gb.Spec):ao Try.prog 21 s4 :=
 a7 Try.func21 a8 PU (λN X K=>P1 N X.1 X.2.1 K) (by kernel_rfl) λX hb hp=>by obtain⟨a,b,_⟩:=X;obtain⟨N,h⟩:=h a b hb.1 hb.2.1;exact⟨N,Eq.trans (by kernel_rfl) (h N (Nat.le_refl N))⟩
def P3:ao Try.prog 21 s4:=P2 gb.ok
def yS:aR:=⟨[⟨.pair (.sl 3 (.int .i64)) (.int .i64),true,false⟩,⟨.pair (.sl 3 (.int .i64)) (.int .i64),true,false⟩],[⟨.bool,false,false⟩]⟩
def s5:aH:=⟨yS,none,λX=>((),((fF.g X.1 X.2.1),()))⟩
def yT:Gm:=aQ aY 37 oH
def P4:an Try.prog yT:=(an.nil).add yP (by kernel_rfl)
def P5:aa:=⟨[],[],[],[],[]⟩
def P6(a b:LI×Int):St:=aU yS.ps (a,(b,()))
def P7(a:Bool):St:=am [(4,xB a)] [] []
def P8:aa:=⟨[4],[],[],[],[]⟩
def P9:Nat->Option aa:=aw [(1000000,P8)]
abbrev Qa{J:Type}(N n:Nat)(U:St)(l:aa)(K:KT J):Option J:=ah yT aZ P9 N (aT 99 (a6 Try.f136) n) .n U (aq (some l) K)
def Qb N a b (K:KT J):Qa N 1 (P6 a b) P5 K =
 fF.Z0 N a b (λc=>K .ret (P7 c)):=by kernel_rfl
def Qc(h:fF.Spec):ao Try.prog 136 s5 :=
 a7 Try.func136 a8 P4 (λN X K=>Qb N X.1 X.2.1 K) (by kernel_rfl) λX hb hp=>by obtain⟨a,b,_⟩:=X;obtain⟨N,h⟩:=h a b hb.1 hb.2.1;exact⟨N,Eq.trans (by kernel_rfl) (h N (Nat.le_refl N))⟩
def Qd:ao Try.prog 136 s5:=Qc fF.ok
def yU:aR:=⟨[⟨.sl 107 (.pair (.sl 3 (.int .i64)) (.int .i64)),false,false⟩,⟨.sl 107 (.pair (.sl 3 (.int .i64)) (.int .i64)),false,false⟩],[⟨.bool,false,false⟩]⟩
def s6:aH:=⟨yU,none,λX=>((),((cP.g X.1 X.2.1),()))⟩
def yV:Gm:=aQ aY 136 s5
def Qe:an Try.prog yV:=(an.nil).add Qd (by kernel_rfl)
def Qf:aa:=⟨[],[],[],[],[]⟩
def Qg(a b:List (LI×Int)):St:=aU yU.ps (a,(b,()))
def oK(a b:List (LI×Int)):St:=am [(0,.c (.sn 107 (.pair (.sl 3 tI) tI) a none)),(1,.c (.sn 107 (.pair (.sl 3 tI) tI) b none))] [] []
def yW:aa:=⟨[0,1],[],[],[],[]⟩
def oL(a b:List (LI×Int))(d:Int):St:=am [(0,.c (.sn 107 (.pair (.sl 3 tI) tI) a none)),(1,.c (.sn 107 (.pair (.sl 3 tI) tI) b none)),(5,xi d)] [] []
def yX:aa:=⟨[0,1,5],[],[],[],[]⟩
def lT :St:=am [] [] []
def s7:aa:=⟨[],[],[],[],[]⟩
def gV(a:Bool):St:=am [(4,xB a)] [] []
def Qh:aa:=⟨[4],[],[],[],[]⟩
def Qi:Nat->Option aa:=aw [(0,s7),(1000000,Qh)]
abbrev lU{J:Type}(N n:Nat)(U:St)(l:aa)(K:KT J):Option J:=ah yV aZ Qi N (aT 99 (a6 Try.f123) n) .n U (aq (some l) K)
def Qj N a b (K:KT J):lU N 2 (Qg a b) yW K =
 cP.Z1 N a b (λa b=>K .nrm (oK a b)):=by kernel_rfl
def Qk N a b (K:KT J):lU N 5 (oK a b) yW K =
 cP.Z3 N a b (λa b=>K .nrm (oK a b)) (λc=>K .ret (gV c)):=by kernel_rfl
def Ql N a b (K:KT J):lU N 19 (oK a b) yX K =
 cP.Z6 N a b (λa b c=>K .nrm (oL a b c)):=by kernel_rfl
def Qm N a b c (K:KT J):lU N 75 (oL a b c) yX K =
 cP.Z9 N a b c (λa b c=>K .nrm (oL a b c)) (K (.exit 0) lT) (λd=>K .ret (gV d)):=by kernel_rfl
def Qn N (K:KT J):=dU K (cP.Z8L N (K (.exit 0) lT) (λa=>K .ret (gV a))) (λb c d k=>cP.Z9 N b c d k (K (.exit 0) lT) (λa=>K .ret (gV a))) (λF b c d=>Qm N b c d _) (by kernel_rfl)
def Qo N a b c (K:KT J):=vL (oL a b c) (Qn N (jK s7 K) N a b c) (by kernel_rfl)
def Qp N a b c (K:KT J):=vB 0 s7 K (cP.Z7 N a b c (K .nrm lT) (λd=>K .ret (gV d))) (Qo N a b c _) (by kernel_rfl)
def Qq N a b (K:KT J):=vQ (λk=>cP.Z6 N a b k) (Ql N a b _) (cM λa b c=>Qp N a b c K)
def Qr N  (K:KT J):lU N 15 lT Qf K =
 cP.Z10 N (λa=>K .ret (gV a)):=by kernel_rfl
def Qs N a b (K:KT J):=vQ (λk=>cP.Z5 N a b k (λc=>K .ret (gV c))) (Qq N a b _) (Qr N K)
def Qt N a b (K:KT J):=vQ (λk=>cP.Z3 N a b k (λc=>K .ret (gV c))) (Qk N a b _) (bU λa b=>Qs N a b K)
def Qu N a b (K:KT J):=vQ (λk=>cP.Z1 N a b k) (Qj N a b _) (bU λa b=>Qt N a b K)
def Qv(h:cP.Spec):ao Try.prog 123 s6 :=
 a7 Try.func123 a8 Qe (λN X K=>Qu N X.1 X.2.1 K) (by kernel_rfl) λX hb hp=>by obtain⟨a,b,_⟩:=X;obtain⟨N,h⟩:=h a b hb.1 hb.2.1;exact⟨N,Eq.trans (by kernel_rfl) (h N (Nat.le_refl N))⟩
def Qw:ao Try.prog 123 s6:=Qv cP.ok
def yY:aR:=⟨[⟨.pair (.int .i64) (.sl 107 (.pair (.sl 3 (.int .i64)) (.int .i64))),true,false⟩,⟨.pair (.int .i64) (.sl 107 (.pair (.sl 3 (.int .i64)) (.int .i64))),true,false⟩],[⟨.bool,false,false⟩]⟩
def s8:aH:=⟨yY,none,λX=>((),((fG.g X.1 X.2.1),()))⟩
def yZ:Gm:=aQ aY 123 s6
def Qx:an Try.prog yZ:=(an.nil).add Qw (by kernel_rfl)
def Qy:aa:=⟨[],[],[],[],[]⟩
def Qz(a b:Int×List (LI×Int)):St:=aU yY.ps (a,(b,()))
def QA(a:Bool):St:=am [(4,xB a)] [] []
def QB:aa:=⟨[4],[],[],[],[]⟩
def QC:Nat->Option aa:=aw [(1000000,QB)]
abbrev QD{J:Type}(N n:Nat)(U:St)(l:aa)(K:KT J):Option J:=ah yZ aZ QC N (aT 99 (a6 Try.f100) n) .n U (aq (some l) K)
def QE N a b (K:KT J):QD N 1 (Qz a b) Qy K =
 fG.Z0 N a b (λc=>K .ret (QA c)):=by kernel_rfl
def QF(h:fG.Spec):ao Try.prog 100 s8 :=
 a7 Try.func100 a8 Qx (λN X K=>QE N X.1 X.2.1 K) (by kernel_rfl) λX hb hp=>by obtain⟨a,b,_⟩:=X;obtain⟨N,h⟩:=h a b hb.1 hb.2.1;exact⟨N,Eq.trans (by kernel_rfl) (h N (Nat.le_refl N))⟩
def QG:ao Try.prog 100 s8:=QF fG.ok
def za:aR:=⟨[⟨.sl 71 (.pair (.int .i64) (.sl 107 (.pair (.sl 3 (.int .i64)) (.int .i64)))),false,false⟩,⟨.sl 71 (.pair (.int .i64) (.sl 107 (.pair (.sl 3 (.int .i64)) (.int .i64)))),false,false⟩],[⟨.bool,false,false⟩]⟩
def s9:aH:=⟨za,none,λX=>((),((cR.g X.1 X.2.1),()))⟩
def zb:Gm:=aQ aY 100 s8
def QH:an Try.prog zb:=(an.nil).add QG (by kernel_rfl)
def QI:aa:=⟨[],[],[],[],[]⟩
def QJ(a b:List (Int×List (LI×Int))):St:=aU za.ps (a,(b,()))
def oM(a b:List (Int×List (LI×Int))):St:=am [(0,.c (.sn 71 (.pair tI (.sl 107 (.pair (.sl 3 tI) tI))) a none)),(1,.c (.sn 71 (.pair tI (.sl 107 (.pair (.sl 3 tI) tI))) b none))] [] []
def zd:aa:=⟨[0,1],[],[],[],[]⟩
def oN(a b:List (Int×List (LI×Int)))(d:Int):St:=am [(0,.c (.sn 71 (.pair tI (.sl 107 (.pair (.sl 3 tI) tI))) a none)),(1,.c (.sn 71 (.pair tI (.sl 107 (.pair (.sl 3 tI) tI))) b none)),(5,xi d)] [] []
def ze:aa:=⟨[0,1,5],[],[],[],[]⟩
def lV :St:=am [] [] []
def ta:aa:=⟨[],[],[],[],[]⟩
def gW(a:Bool):St:=am [(4,xB a)] [] []
def QK:aa:=⟨[4],[],[],[],[]⟩
def QL:Nat->Option aa:=aw [(0,ta),(1000000,QK)]
abbrev lW{J:Type}(N n:Nat)(U:St)(l:aa)(K:KT J):Option J:=ah zb aZ QL N (aT 99 (a6 Try.f57) n) .n U (aq (some l) K)
def QM N a b (K:KT J):lW N 2 (QJ a b) zd K =
 cR.Z1 N a b (λa b=>K .nrm (oM a b)):=by kernel_rfl
def QN N a b (K:KT J):lW N 5 (oM a b) zd K =
 cR.Z3 N a b (λa b=>K .nrm (oM a b)) (λc=>K .ret (gW c)):=by kernel_rfl
def QO N a b (K:KT J):lW N 19 (oM a b) ze K =
 cR.Z6 N a b (λa b c=>K .nrm (oN a b c)):=by kernel_rfl
def QP N a b c (K:KT J):lW N 75 (oN a b c) ze K =
 cR.Z9 N a b c (λa b c=>K .nrm (oN a b c)) (K (.exit 0) lV) (λd=>K .ret (gW d)):=by kernel_rfl
def QQ N (K:KT J):=dU K (cR.Z8L N (K (.exit 0) lV) (λa=>K .ret (gW a))) (λb c d k=>cR.Z9 N b c d k (K (.exit 0) lV) (λa=>K .ret (gW a))) (λF b c d=>QP N b c d _) (by kernel_rfl)
def QR N a b c (K:KT J):=vL (oN a b c) (QQ N (jK ta K) N a b c) (by kernel_rfl)
def QS N a b c (K:KT J):=vB 0 ta K (cR.Z7 N a b c (K .nrm lV) (λd=>K .ret (gW d))) (QR N a b c _) (by kernel_rfl)
def QT N a b (K:KT J):=vQ (λk=>cR.Z6 N a b k) (QO N a b _) (cM λa b c=>QS N a b c K)
def QU N  (K:KT J):lW N 15 lV QI K =
 cR.Z10 N (λa=>K .ret (gW a)):=by kernel_rfl
def QV N a b (K:KT J):=vQ (λk=>cR.Z5 N a b k (λc=>K .ret (gW c))) (QT N a b _) (QU N K)
def QW N a b (K:KT J):=vQ (λk=>cR.Z3 N a b k (λc=>K .ret (gW c))) (QN N a b _) (bU λa b=>QV N a b K)
def QX N a b (K:KT J):=vQ (λk=>cR.Z1 N a b k) (QM N a b _) (bU λa b=>QW N a b K)
def QY(h:cR.Spec):ao Try.prog 57 s9 :=
 a7 Try.func57 a8 QH (λN X K=>QX N X.1 X.2.1 K) (by kernel_rfl) λX hb hp=>by obtain⟨a,b,_⟩:=X;obtain⟨N,h⟩:=h a b hb.1 hb.2.1;exact⟨N,Eq.trans (by kernel_rfl) (h N (Nat.le_refl N))⟩
def QZ:ao Try.prog 57 s9:=QY cR.ok
def zf:aR:=⟨[⟨.pair (.pair (.int .i64) (.pair (.int .i64) (.sl 3 (.int .i64)))) (.sl 71 (.pair (.int .i64) (.sl 107 (.pair (.sl 3 (.int .i64)) (.int .i64))))),true,false⟩,⟨.pair (.pair (.int .i64) (.pair (.int .i64) (.sl 3 (.int .i64)))) (.sl 71 (.pair (.int .i64) (.sl 107 (.pair (.sl 3 (.int .i64)) (.int .i64))))),true,false⟩],[⟨.bool,false,false⟩]⟩
def tb:aH:=⟨zf,none,λX=>((),((gc.g X.1 X.2.1),()))⟩
def zg:Gm:=aQ (aQ aY 21 s4) 57 s9
def Q0:an Try.prog zg:=((an.nil).add P3 (by kernel_rfl)).add QZ (by kernel_rfl)
def Q1:aa:=⟨[],[],[],[],[]⟩
def Q2(a b:(MT)×List (Int×List (LI×Int))):St:=aU zf.ps (a,(b,()))
def Q3(a:Bool):St:=am [(4,xB a)] [] []
def Q4:aa:=⟨[4],[],[],[],[]⟩
def Q5:Nat->Option aa:=aw [(1000000,Q4)]
abbrev Q6{J:Type}(N n:Nat)(U:St)(l:aa)(K:KT J):Option J:=ah zg aZ Q5 N (aT 99 (a6 Try.f15) n) .n U (aq (some l) K)
def Q7 N a b (K:KT J):Q6 N 1 (Q2 a b) Q1 K =
 gc.Z0 N a b (λc=>K .ret (Q3 c)):=by kernel_rfl
def Q8(h:gc.Spec):ao Try.prog 15 tb :=
 a7 Try.func15 a8 Q0 (λN X K=>Q7 N X.1 X.2.1 K) (by kernel_rfl) λX hb hp=>by obtain⟨a,b,_⟩:=X;obtain⟨N,h⟩:=h a b hb.1 hb.2.1;exact⟨N,Eq.trans (by kernel_rfl) (h N (Nat.le_refl N))⟩
def Q9:ao Try.prog 15 tb:=Q8 gc.ok
def zh:aR:=⟨[⟨.pair (.pair (.int .i64) (.pair (.int .i64) (.sl 3 (.int .i64)))) (.sl 103 (.pair (.int .i64) (.sl 135 (.pair (.sl 3 (.int .i64)) (.int .i64))))),true,false⟩],[⟨.bool,false,false⟩]⟩
def e3:aH:=⟨zh,none,λX=>((),((iP.g X.1),()))⟩
def zi:Gm:=aQ (aQ (aQ (aQ (aQ aY 11 rS) 12 sy) 13 r6) 14 sY) 15 tb
def Ra:an Try.prog zi:=(((((an.nil).add Dz (by kernel_rfl)).add J7 (by kernel_rfl)).add Fm (by kernel_rfl)).add PA (by kernel_rfl)).add Q9 (by kernel_rfl)
def Rb:aa:=⟨[],[],[],[],[]⟩
def Rc(a:(MT)×List (Int×List (LI×Int))):St:=aU zh.ps (a,())
def Re(a:Bool):St:=am [(2,xB a)] [] []
def Rg:aa:=⟨[2],[],[],[],[]⟩
def Rh:Nat->Option aa:=aw [(1000000,Rg)]
abbrev Ri{J:Type}(N n:Nat)(U:St)(l:aa)(K:KT J):Option J:=ah zi aZ Rh N (aT 99 (a6 Try.f3) n) .n U (aq (some l) K)
def Rj N a (K:KT J):Ri N 1 (Rc a) Rb K =
 iP.Z0 N a (λb=>K .ret (Re b)):=by kernel_rfl
def Rk(h:iP.Spec):ao Try.prog 3 e3 :=
 a7 Try.func3 a8 Ra (λN X K=>Rj N X.1 K) (by kernel_rfl) λX hb hp=>by obtain⟨a,_⟩:=X;obtain⟨N,h⟩:=h a hb.1;exact⟨N,Eq.trans (by kernel_rfl) (h N (Nat.le_refl N))⟩
def Rl:ao Try.prog 3 e3:=Rk iP.ok
end Go.Fw
