/- The ties: the program's text comes to the plain functions. Nothing is assumed. -/
import Derived.Test.YtkjnhmjfdfiklaaGreatDoorFza
import Derived.Test.YtkjnhmjfdfiklaaGreatDoorFwd
import Derived.Test.YtkjnhmjfdfiklaaGreatDoorProg
import Derived.Test.YtkjnhmjfdfiklaaGreatDoorPuFnExactIsFiniteTypea
import Derived.Test.YtkjnhmjfdfiklaaGreatDoorPuFnExactIsFiniteTypeb
import Derived.Test.YtkjnhmjfdfiklaaGreatDoorChecked
noncomputable section
set_option linter.defProp false
set_option linter.unusedSectionVars false
set_option linter.unusedVariables false
set_option linter.unusedSimpArgs false
set_option maxRecDepth 100000
namespace Go.Fw
open Go.Proofs
def tab:Tab:=zh1 [
 (2,⟨false,.int .i64,[.int .i64 0],[],none,8⟩),
 (3,⟨false,.int .i64,[.int .i64 0],[],none,8⟩),
 (4,⟨false,.bool,[.bool false],[],none,1⟩),
 (5,⟨false,.int .u8,[.int .u8 0],[],none,1⟩),
 (6,⟨false,.int .u8,[.int .u8 0],[],none,1⟩),
 (7,⟨true,.pair (.int .i64) (.pair (.int .i64) (.pair (.bool) (.int .u8))),[.int .i64 0,.int .i64 0,.bool false,.int .u8 0],[(0,1,false),(1,1,false),(2,1,false),(3,1,false)],none,24⟩),
 (8,⟨true,.pair (.int .i64) (.pair (.int .i64) (.pair (.bool) (.int .u8))),[.int .i64 0,.int .i64 0,.bool false,.int .u8 0],[(0,1,false),(1,1,false),(2,1,false),(3,1,false)],none,24⟩),
 (9,⟨false,.str,[.str ByteArray.empty],[],none,16⟩),
 (10,⟨false,.str,[.str ByteArray.empty],[],none,16⟩),
 (11,⟨false,.str,[.str ByteArray.empty],[],none,16⟩),
 (12,⟨false,.int .u64,[.int .u64 0],[],none,8⟩),
 (13,⟨true,.pair (.str) (.int .u64),[.str ByteArray.empty,.int .u64 0],[(0,1,false),(1,1,false)],none,24⟩),
 (14,⟨true,.pair (.str) (.int .u64),[.str ByteArray.empty,.int .u64 0],[(0,1,false),(1,1,false)],none,24⟩),
 (20,⟨false,.err,[.err false],[],none,16⟩),
 (21,⟨false,.int .i32,[.int .i32 0],[],none,4⟩),
 (22,⟨false,.sl 3 (.int .i64),[.nil],[],some 3,24⟩),
 (23,⟨true,.pair (.int .i64) (.pair (.int .i64) (.sl 3 (.int .i64))),[.int .i64 0,.int .i64 0,.nil],[(0,1,false),(1,1,false),(2,1,false)],none,40⟩),
 (24,⟨true,.pair (.int .i64) (.pair (.int .i64) (.sl 3 (.int .i64))),[.int .i64 0,.int .i64 0,.nil],[(0,1,false),(1,1,false),(2,1,false)],none,40⟩),
 (27,⟨true,.pair (.int .i64) (.pair (.int .i64) (.sl 3 (.int .i64))),[.int .i64 0,.int .i64 0,.nil],[(0,1,false),(1,1,false),(2,1,false)],none,40⟩),
 (31,⟨false,.sl 27 (.pair (.int .i64) (.pair (.int .i64) (.sl 3 (.int .i64)))),[.nil],[],some 27,24⟩),
 (37,⟨false,.sl 5 (.int .u8),[.nil],[],some 5,24⟩),
 (52,⟨false,.sl 22 (.sl 3 (.int .i64)),[.nil],[],some 22,24⟩),
 (59,⟨false,.pair (.str) (.sl 0 .bool),[.undef],[],none,8⟩),
 (70,⟨false,.sl 9 (.str),[.nil],[],some 9,24⟩),
 (96,⟨false,.int .u64,[.int .u64 0],[],none,8⟩),
 (97,⟨true,.pair (.sl 5 (.int .u8)) (.pair (.int .i64) (.int .i64)),[.nil,.int .i64 0,.int .i64 0],[(0,1,false),(1,1,false),(2,1,false)],none,40⟩),
 (98,⟨true,.pair (.sl 5 (.int .u8)) (.pair (.int .i64) (.int .i64)),[.nil,.int .i64 0,.int .i64 0],[(0,1,false),(1,1,false),(2,1,false)],none,40⟩),
 (102,⟨false,.err,[.err false],[],none,16⟩),
 (103,⟨false,.err,[.err false],[],none,16⟩),
 (109,⟨false,.sl 4 (.bool),[.nil],[],some 4,24⟩),
 (122,⟨false,.int .i64,[.int .i64 0],[],none,8⟩),
 (130,⟨false,.int .u32,[.int .u32 0],[],none,4⟩),
 (132,⟨false,.int .u64,[.int .u64 0],[],none,8⟩),
 (150,⟨false,.int .u64,[.int .u64 0],[],none,8⟩),
 (159,⟨false,.int .i64,[.int .i64 0],[],none,8⟩),
 (179,⟨true,.pair (.str) (.pair (.str) (.err)),[.str ByteArray.empty,.str ByteArray.empty,.err false],[(0,1,false),(1,1,false),(2,1,false)],none,48⟩),
 (180,⟨true,.pair (.str) (.pair (.str) (.err)),[.str ByteArray.empty,.str ByteArray.empty,.err false],[(0,1,false),(1,1,false),(2,1,false)],none,48⟩),
 (189,⟨true,.pair (.int .u8) (.int .u8),[.int .u8 0,.int .u8 0],[(0,1,false),(1,1,false)],none,2⟩),
 (190,⟨true,.pair (.int .u8) (.int .u8),[.int .u8 0,.int .u8 0],[(0,1,false),(1,1,false)],none,2⟩),
 (196,⟨true,.str,[.str ByteArray.empty],[(0,1,false)],none,16⟩),
 (197,⟨true,.str,[.str ByteArray.empty],[(0,1,false)],none,16⟩),
 (209,⟨false,.int .u8,[.int .u8 0],[],none,1⟩),
 (210,⟨false,.int .u8,[.int .u8 0],[],none,1⟩),
 (212,⟨false,.int .i32,[.int .i32 0],[],none,4⟩),
 (213,⟨false,.int .i32,[.int .i32 0],[],none,4⟩)]
def z2q:TOk Tryz.prog tab:=TOk.of (by kernel_rfl)
def tabl : List (String × IntKind × List Int) := [("internal/strconv.uint64pow10", .u64, Lib.pow10Tab)]
def intl:List (String×IntKind):=[]
def errl:List String:=[]
instance:Inv Tryz.prog:=Inv.tabs _ tabl intl errl
theorem tab0 (w : World) (h : Inv.I Tryz.prog w) : Lib.TabIs Tryz.prog w "internal/strconv.uint64pow10" .u64 Lib.pow10Tab := Inv.tab_mem (q := intl) (es := errl) ("internal/strconv.uint64pow10", .u64, Lib.pow10Tab) (List.mem_of_getElem? (i := 0) rfl) w h
end Go.Fw
namespace Go.Fw
variable {ρ : Type}
open Go.Proofs
def f39sig:Sig:=⟨[⟨.sl 3 (.int .i64),false,false⟩,⟨.int .i64,false,false⟩],[⟨.int .i64,false,false⟩]⟩
def e39:z24:=⟨f39sig,none,λX=>((),((z2e.g X.1 X.2.1),()))⟩
def f39G:Gm:=z1n
def f39GOk:GOk Tryz.prog f39G:=GOk.nil
def f39lE:z00:=⟨[],[],[],[],[]⟩
def f39s0(a:LI)(b:Int):St:=z1k f39sig.ps (a,(b,()))
def f39s1(a:Int):St:=z16 [(4,xi a)] [] []
def f39l1:z00:=⟨[4],[],[],[],[]⟩
def f39B:Nat->Option z00:=z17 [(1000000,f39l1)]
abbrev f39j{ρ:Type}(N n:Nat)(σ:St)(l:z00)(K:KT ρ):Option ρ:=z0p f39G tab f39B N (z2o 99 (z1q Tryz.f39) n) .n σ (z14 (some l) K)
def f39t0 N a b (K:KT ρ):f39j N 1 (f39s0 a b) f39lE K =
 z2e.Z0 N a b (λc=>K .ret (f39s1 c)):=by kernel_rfl
def f39ok(h:z2e.Spec):z0a Tryz.prog 39 e39 :=
 okC Tryz.func39 z2q f39GOk (λN X K=>f39t0 N X.1 X.2.1 K) (by kernel_rfl) λX hb hp=>by
  obtain⟨a,b,_⟩:=X
  obtain⟨N,h⟩:=h a b hb.1
  exact⟨N,Eq.trans (by kernel_rfl) (h N (Nat.le_refl N))⟩
def e39ok:z0a Tryz.prog 39 e39:=f39ok z2e.ok
end Go.Fw
namespace Go.Fw
variable {ρ : Type}
open Go.Proofs
def f9sig:Sig:=⟨[⟨.pair (.int .i64) (.pair (.int .i64) (.sl 3 (.int .i64))),true,false⟩,⟨.int .i64,false,false⟩],[⟨.int .i64,false,false⟩]⟩
def e9:z24:=⟨f9sig,none,λX=>((),((z2s.g X.1 X.2.1),()))⟩
def f9G:Gm:=z3m z1n 39 e39
def f9GOk:GOk Tryz.prog f9G:=(GOk.nil).add e39ok (by kernel_rfl)
def f9lE:z00:=⟨[],[],[],[],[]⟩
def f9s0(a:MT)(b:Int):St:=z1k f9sig.ps (a,(b,()))
def f9s1(a:Int):St:=z16 [(4,xi a)] [] []
def f9l1:z00:=⟨[4],[],[],[],[]⟩
def f9B:Nat->Option z00:=z17 [(1000000,f9l1)]
abbrev f9j{ρ:Type}(N n:Nat)(σ:St)(l:z00)(K:KT ρ):Option ρ:=z0p f9G tab f9B N (z2o 99 (z1q Tryz.f9) n) .n σ (z14 (some l) K)
def f9t0 N a b (K:KT ρ):f9j N 1 (f9s0 a b) f9lE K =
 z2s.Z0 N a b (λc=>K .ret (f9s1 c)):=by kernel_rfl
def f9ok(h:z2s.Spec):z0a Tryz.prog 9 e9 :=
 okC Tryz.func9 z2q f9GOk (λN X K=>f9t0 N X.1 X.2.1 K) (by kernel_rfl) λX hb hp=>by
  obtain⟨a,b,_⟩:=X
  obtain⟨N,h⟩:=h a b hb.1
  exact⟨N,Eq.trans (by kernel_rfl) (h N (Nat.le_refl N))⟩
def e9ok:z0a Tryz.prog 9 e9:=f9ok z2s.ok
end Go.Fw
namespace Go.Fw
variable {ρ : Type}
open Go.Proofs
def f41sig:Sig:=⟨[⟨.sl 3 (.int .i64),false,false⟩],[⟨.sl 3 (.int .i64),false,false⟩]⟩
def e41:z24:=⟨f41sig,(some λX=>z1d.P X.1),λX=>((),((z1d.g X.1),()))⟩
def f41G:Gm:=z1n
def f41GOk:GOk Tryz.prog f41G:=GOk.nil
def f41lE:z00:=⟨[],[],[],[],[]⟩
def f41s0(a:LI):St:=z1k f41sig.ps (a,())
def f41s1(a:LI):St:=z16 [(0,.c (.sn 3 tI a none))] [] []
def f41l1:z00:=⟨[0],[],[],[],[]⟩
def f41s2(a b:LI):St:=z16 [(0,.c (.sn 3 tI b none)),(3,xo 1000192)] [] [(1000192,(⟨3,.int .i64,a,true,false⟩:Row))]
def f41l2:z00:=⟨[0,3],[],[],[],[(⟨false,3,0⟩,1000192)]⟩
def f41s3(a b:LI)(d:Int):St:=z16 [(0,.c (.sn 3 tI b none)),(3,xo 1000192),(4,xi d)] [] [(1000192,(⟨3,.int .i64,a,true,false⟩:Row))]
def f41l3:z00:=⟨[0,3,4],[],[],[],[(⟨false,3,0⟩,1000192)]⟩
def zsv(a:LI):St:=z16 [(3,xo 1000192)] [] [(1000192,(⟨3,.int .i64,a,true,false⟩:Row))]
def f41l4:z00:=⟨[3],[],[],[],[(⟨false,3,0⟩,1000192)]⟩
def f41s5(a:LI):St:=z16 [(2,xo 1000128)] [] [(1000128,(⟨3,.int .i64,a,true,false⟩:Row))]
def f41l5:z00:=⟨[2],[],[],[],[(⟨false,2,0⟩,1000128)]⟩
def f41B:Nat->Option z00:=z17 [(0,f41l4),(1000000,f41l5)]
abbrev f41j{ρ:Type}(N n:Nat)(σ:St)(l:z00)(K:KT ρ):Option ρ:=z0p f41G tab f41B N (z2o 99 (z1q Tryz.f41) n) .n σ (z14 (some l) K)
def f41t1 N a (K:KT ρ):f41j N 2 (f41s0 a) f41l1 K =
 z1d.Z1 N a (λa=>K .nrm (f41s1 a)):=by kernel_rfl
def f41t3 N a (K:KT ρ):f41j N 5 (f41s1 a) f41l2 K =
 z1d.Z3 N a (λb a=>K .nrm (f41s2 b a)):=by kernel_rfl
def f41t6 N a b (K:KT ρ):f41j N 19 (f41s2 a b) f41l3 K =
 z1d.Z6 N a b (λa b c=>K .nrm (f41s3 a b c)):=by kernel_rfl
def f41t9 N a b c (K:KT ρ):f41j N 75 (f41s3 a b c) f41l3 K =
 z1d.Z9 N a b c (λa b c=>K .nrm (f41s3 a b c)) (λa=>K (.exit 0) (zsv a)):=by kernel_rfl
def f41t8L N (K:KT ρ):=lp3 K (z1d.Z8L N (λa=>K (.exit 0) (zsv a))) (λa b c k=>z1d.Z9 N a b c k (λa=>K (.exit 0) (zsv a))) (λF a b c=>f41t9 N a b c _) (by kernel_rfl)
def f41t8 N a b c (K:KT ρ):=vL (f41s3 a b c) (f41t8L N (jK f41l4 K) N a b c) (by kernel_rfl)
def f41t7 N a b c (K:KT ρ):=vB 0 f41l4 K (z1d.Z7 N a b c (λa=>K .nrm (zsv a))) (f41t8 N a b c _) (by kernel_rfl)
def f41t5 N a b (K:KT ρ):=vQ (λk=>z1d.Z6 N a b k) (f41t6 N a b _) (fx3 λa b c=>f41t7 N a b c K)
def f41t10 N a (K:KT ρ):f41j N 15 (zsv a) f41lE K =
 z1d.Z10 N a (λb=>K .ret (f41s5 b)):=by kernel_rfl
def f41t4 N a b (K:KT ρ):=vQ (λk=>z1d.Z5 N a b k) (f41t5 N a b _) (funext λa=>f41t10 N a K)
def f41t2 N a (K:KT ρ):=vQ (λk=>z1d.Z3 N a k) (f41t3 N a _) (fx2 λb a=>f41t4 N b a K)
def f41t0 N a (K:KT ρ):=vQ (λk=>z1d.Z1 N a k) (f41t1 N a _) (funext λa=>f41t2 N a K)
def f41ok(h:z1d.Spec):z0a Tryz.prog 41 e41 :=
 okC Tryz.func41 z2q f41GOk (λN X K=>f41t0 N X.1 K) (by kernel_rfl) λX hb hp=>by
  obtain⟨a,_⟩:=X
  obtain⟨N,h⟩:=h a hb.1 hp
  exact⟨N,Eq.trans (by kernel_rfl) (h N (Nat.le_refl N))⟩
def e41ok:z0a Tryz.prog 41 e41:=f41ok z1d.ok
end Go.Fw
namespace Go.Fw
variable {ρ : Type}
open Go.Proofs
def f11sig:Sig:=⟨[⟨.pair (.int .i64) (.pair (.int .i64) (.sl 3 (.int .i64))),true,false⟩],[⟨.pair (.int .i64) (.pair (.int .i64) (.sl 3 (.int .i64))),true,false⟩]⟩
def e11:z24:=⟨f11sig,(some λX=>z1o.P X.1),λX=>((),((z1o.g X.1),()))⟩
def f11G:Gm:=z3m z1n 41 e41
def f11GOk:GOk Tryz.prog f11G:=(GOk.nil).add e41ok (by kernel_rfl)
def f11lE:z00:=⟨[],[],[],[],[]⟩
def f11s0(a:MT):St:=z1k f11sig.ps (a,())
def f11s1(a:LI)(b c:Int):St:=z16 [(2,xb 2)] [(2,(27,[yi b,yi c,.own 20000130]))] [(20000130,(⟨3,.int .i64,a,true,false⟩:Row))]
def f11l1:z00:=⟨[2],[2],[],[],[(⟨true,2,2⟩,20000130)]⟩
def f11B:Nat->Option z00:=z17 [(1000000,f11l1)]
abbrev f11j{ρ:Type}(N n:Nat)(σ:St)(l:z00)(K:KT ρ):Option ρ:=z0p f11G tab f11B N (z2o 99 (z1q Tryz.f11) n) .n σ (z14 (some l) K)
def f11t0 N a (K:KT ρ):f11j N 1 (f11s0 a) f11lE K =
 z1o.Z0 N a (λb c d=>K .ret (f11s1 b c d)):=by kernel_rfl
def f11ok(h:z1o.Spec):z0a Tryz.prog 11 e11 :=
 okC Tryz.func11 z2q f11GOk (λN X K=>f11t0 N X.1 K) (by kernel_rfl) λX hb hp=>by
  obtain⟨a,_⟩:=X
  obtain⟨N,h⟩:=h a hb.1 hp
  exact⟨N,Eq.trans (by kernel_rfl) (h N (Nat.le_refl N))⟩
def e11ok:z0a Tryz.prog 11 e11:=f11ok z1o.ok
end Go.Fw
namespace Go.Fw
variable {ρ : Type}
open Go.Proofs
def ztm:Sig:=⟨[⟨.int .i64,false,false⟩,⟨.int .i64,false,false⟩,⟨.int .i64,false,false⟩],[⟨.bool,false,false⟩]⟩
def e104:z24:=⟨ztm,none,λX=>((),((z3y.g X.1 X.2.1 X.2.2.1),()))⟩
def f104G:Gm:=z1n
def f104GOk:GOk Tryz.prog f104G:=GOk.nil
def f104lE:z00:=⟨[],[],[],[],[]⟩
def f104s0(a b c:Int):St:=z1k ztm.ps (a,(b,(c,())))
def f104s1(a:Bool):St:=z16 [(6,xB a)] [] []
def f104l1:z00:=⟨[6],[],[],[],[]⟩
def f104B:Nat->Option z00:=z17 [(1000000,f104l1)]
abbrev f104j{ρ:Type}(N n:Nat)(σ:St)(l:z00)(K:KT ρ):Option ρ:=z0p f104G tab f104B N (z2o 99 (z1q Tryz.f104) n) .n σ (z14 (some l) K)
def f104t0 N a b c (K:KT ρ):f104j N 1 (f104s0 a b c) f104lE K =
 z3y.Z0 N a b c (λd=>K .ret (f104s1 d)):=by kernel_rfl
def f104ok(h:z3y.Spec):z0a Tryz.prog 104 e104 :=
 okC Tryz.func104 z2q f104GOk (λN X K=>f104t0 N X.1 X.2.1 X.2.2.1 K) (by kernel_rfl) λX hb hp=>by
  obtain⟨a,b,c,_⟩:=X
  obtain⟨N,h⟩:=h a b c
  exact⟨N,Eq.trans (by kernel_rfl) (h N (Nat.le_refl N))⟩
def e104ok:z0a Tryz.prog 104 e104:=f104ok z3y.ok
end Go.Fw
namespace Go.Fw
variable {ρ : Type}
open Go.Proofs
def ztl:Sig:=⟨[⟨.pair (.int .i64) (.pair (.int .i64) (.sl 3 (.int .i64))),true,false⟩,⟨.int .i64,false,false⟩,⟨.int .i64,false,false⟩],[⟨.int .i64,false,false⟩]⟩
def e105:z24:=⟨ztl,(some λX=>z0l.P X.1 X.2.1 X.2.2.1),λX=>((),((z0l.g X.1 X.2.1 X.2.2.1),()))⟩
def f105G:Gm:=z1n
def f105GOk:GOk Tryz.prog f105G:=GOk.nil
def f105lE:z00:=⟨[],[],[],[],[]⟩
def f105s0(a:MT)(b c:Int):St:=z1k ztl.ps (a,(b,(c,())))
def f105s1(a:Int):St:=z16 [(6,xi a)] [] []
def f105l1:z00:=⟨[6],[],[],[],[]⟩
def f105B:Nat->Option z00:=z17 [(1000000,f105l1)]
abbrev f105j{ρ:Type}(N n:Nat)(σ:St)(l:z00)(K:KT ρ):Option ρ:=z0p f105G tab f105B N (z2o 99 (z1q Tryz.f105) n) .n σ (z14 (some l) K)
def f105t0 N a b c (K:KT ρ):f105j N 1 (f105s0 a b c) f105lE K =
 z0l.Z0 N a b c (λd=>K .ret (f105s1 d)):=by kernel_rfl
def f105ok(h:z0l.Spec):z0a Tryz.prog 105 e105 :=
 okC Tryz.func105 z2q f105GOk (λN X K=>f105t0 N X.1 X.2.1 X.2.2.1 K) (by kernel_rfl) λX hb hp=>by
  obtain⟨a,b,c,_⟩:=X
  obtain⟨N,h⟩:=h a b c hb.1 hp
  exact⟨N,Eq.trans (by kernel_rfl) (h N (Nat.le_refl N))⟩
def zgb:z0a Tryz.prog 105 e105:=f105ok z0l.ok
end Go.Fw
namespace Go.Fw
variable {ρ : Type}
open Go.Proofs
def f65sig:Sig:=⟨[⟨.pair (.int .i64) (.pair (.int .i64) (.sl 3 (.int .i64))),true,false⟩],[⟨.bool,false,false⟩]⟩
def e65:z24:=⟨f65sig,none,λX=>((),((z0o.g X.1),()))⟩
def f65G:Gm:=z3m (z3m z1n 104 e104) 105 e105
def f65GOk:GOk Tryz.prog f65G:=((GOk.nil).add e104ok (by kernel_rfl)).add zgb (by kernel_rfl)
def f65lE:z00:=⟨[],[],[],[],[]⟩
def f65s0(a:MT):St:=z1k f65sig.ps (a,())
def zho(a b:Int)(c:LI):St:=z16 [(1,xb 1)] [(1,(27,[yi a,yi b,.sn 3 tI c none]))] []
def zsq:z00:=⟨[1],[1],[],[],[]⟩
def f65s2(a b c:Int)(d:LI):St:=z16 [(1,xb 1),(3,xi a)] [(1,(27,[yi b,yi c,.sn 3 tI d none]))] []
def f65l2:z00:=⟨[1,3],[1],[],[],[]⟩
def zd5(a b c:Int)(d:LI):St:=z16 [(1,xb 1),(4,xi a)] [(1,(27,[yi b,yi c,.sn 3 tI d none]))] []
def zk7:z00:=⟨[1,4],[1],[],[],[]⟩
def f65s4(a b c d:Int)(e:LI):St:=z16 [(1,xb 1),(4,xi a),(5,xi b)] [(1,(27,[yi c,yi d,.sn 3 tI e none]))] []
def f65l4:z00:=⟨[1,4,5],[1],[],[],[]⟩
def zpw :St:=z16 [] [] []
def f65l5:z00:=⟨[],[],[],[],[]⟩
def z87(a:Bool):St:=z16 [(2,xB a)] [] []
def f65l6:z00:=⟨[2],[],[],[],[]⟩
def f65B:Nat->Option z00:=z17 [(0,zsq),(4,zk7),(3,zk7),(2,f65l5),(1000000,f65l6)]
abbrev f65j{ρ:Type}(N n:Nat)(σ:St)(l:z00)(K:KT ρ):Option ρ:=z0p f65G tab f65B N (z2o 99 (z1q Tryz.f65) n) .n σ (z14 (some l) K)
def f65t1 N a (K:KT ρ):f65j N 2 (f65s0 a) zsq K =
 z0o.Z1 N a (λb c d=>K .nrm (zho b c d)):=by kernel_rfl
def f65t3 N a b c (K:KT ρ):f65j N 5 (zho a b c) zsq K =
 z0o.Z3 N a b c (λa b c=>K .nrm (zho a b c)) (λd=>K .ret (z87 d)):=by kernel_rfl
def f65t6 N a b c (K:KT ρ):f65j N 19 (zho a b c) f65l2 K =
 z0o.Z6 N a b c (λd a b c=>K .nrm (f65s2 d a b c)):=by kernel_rfl
def f65t9 N d a b c (K:KT ρ):f65j N 75 (f65s2 d a b c) f65l2 K =
 z0o.Z9 N d a b c (λd a b c=>K .nrm (f65s2 d a b c)) (λa b c=>K (.exit 0) (zho a b c)) (λe=>K .ret (z87 e)):=by kernel_rfl
def f65t8L N (K:KT ρ):=lp4 K (z0o.Z8L N (λa b c=>K (.exit 0) (zho a b c)) (λd=>K .ret (z87 d))) (λe a b c k=>z0o.Z9 N e a b c k (λa b c=>K (.exit 0) (zho a b c)) (λd=>K .ret (z87 d))) (λF e a b c=>f65t9 N e a b c _) (by kernel_rfl)
def f65t8 N a b c d (K:KT ρ):=vL (f65s2 a b c d) (f65t8L N (jK zsq K) N a b c d) (by kernel_rfl)
def f65t7 N d a b c (K:KT ρ):=vB 0 zsq K (z0o.Z7 N d a b c (λa b c=>K .nrm (zho a b c)) (λe=>K .ret (z87 e))) (f65t8 N d a b c _) (by kernel_rfl)
def f65t5 N a b c (K:KT ρ):=vQ (λk=>z0o.Z6 N a b c k) (f65t6 N a b c _) (fx4 λd a b c=>f65t7 N d a b c K)
def f65t12 N a b c (K:KT ρ):f65j N 39 (zho a b c) zk7 K =
 z0o.Z12 N a b c (λd a b c=>K .nrm (zd5 d a b c)):=by kernel_rfl
def f65t16 N a b c d (K:KT ρ):f65j N 279 (zd5 a b c d) zk7 K =
 z0o.Z16 N a b c d (λa b c d=>K .nrm (zd5 a b c d)) (K (.exit 2) zpw):=by kernel_rfl
def f65t20 N a b c d (K:KT ρ):f65j N 2199 (zd5 a b c d) f65l4 K =
 z0o.Z20 N a b c d (λa e b c d=>K .nrm (f65s4 a e b c d)):=by kernel_rfl
def f65t23 N a e b c d (K:KT ρ):f65j N 9367 (f65s4 a e b c d) f65l4 K =
 z0o.Z23 N a e b c d (λa e b c d=>K .nrm (f65s4 a e b c d)) (λa b c d=>K (.exit 4) (zd5 a b c d)) (λf=>K .ret (z87 f)):=by kernel_rfl
def f65t22L N (K:KT ρ):=lp5 K (z0o.Z22L N (λa b c d=>K (.exit 4) (zd5 a b c d)) (λe=>K .ret (z87 e))) (λa f b c d k=>z0o.Z23 N a f b c d k (λa b c d=>K (.exit 4) (zd5 a b c d)) (λe=>K .ret (z87 e))) (λF a f b c d=>f65t23 N a f b c d _) (by kernel_rfl)
def f65t22 N a b c d e (K:KT ρ):=vL (f65s4 a b c d e) (f65t22L N (jK zk7 K) N a b c d e) (by kernel_rfl)
def f65t21 N a e b c d (K:KT ρ):=vB 4 zk7 K (z0o.Z21 N a e b c d (λa b c d=>K .nrm (zd5 a b c d)) (λf=>K .ret (z87 f))) (f65t22 N a e b c d _) (by kernel_rfl)
def f65t19 N a b c d (K:KT ρ):=vQ (λk=>z0o.Z20 N a b c d k) (f65t20 N a b c d _) (fx5 λa e b c d=>f65t21 N a e b c d K)
def f65t18 N a b c d (K:KT ρ):=vB 3 zk7 K (z0o.Z18 N a b c d (λa b c d=>K .nrm (zd5 a b c d)) (λe=>K .ret (z87 e))) (f65t19 N a b c d _) (by kernel_rfl)
def f65t24 N a b c d (K:KT ρ):f65j N 919 (zd5 a b c d) zk7 K =
 z0o.Z24 N a b c d (λa b c d=>K .nrm (zd5 a b c d)):=by kernel_rfl
def f65t17 N a b c d (K:KT ρ):=vQ (λk=>z0o.Z18 N a b c d k (λe=>K .ret (z87 e))) (f65t18 N a b c d _) (fx4 λa b c d=>f65t24 N a b c d K)
def f65t15 N a b c d (K:KT ρ):=vQ (λk=>z0o.Z16 N a b c d k (K (.exit 2) zpw)) (f65t16 N a b c d _) (fx4 λa b c d=>f65t17 N a b c d K)
def f65t14L N (K:KT ρ):=lp4 K (z0o.Z14L N (K (.exit 2) zpw) (λa=>K .ret (z87 a))) (λb c d e k=>z0o.Z15 N b c d e k (K (.exit 2) zpw) (λa=>K .ret (z87 a))) (λF b c d e=>f65t15 N b c d e _) (by kernel_rfl)
def f65t14 N a b c d (K:KT ρ):=vL (zd5 a b c d) (f65t14L N (jK f65l5 K) N a b c d) (by kernel_rfl)
def f65t13 N a b c d (K:KT ρ):=vB 2 f65l5 K (z0o.Z13 N a b c d (K .nrm zpw) (λe=>K .ret (z87 e))) (f65t14 N a b c d _) (by kernel_rfl)
def f65t11 N a b c (K:KT ρ):=vQ (λk=>z0o.Z12 N a b c k) (f65t12 N a b c _) (fx4 λd a b c=>f65t13 N d a b c K)
def f65t25 N  (K:KT ρ):f65j N 31 zpw f65lE K =
 z0o.Z25 N (λa=>K .ret (z87 a)):=by kernel_rfl
def f65t10 N a b c (K:KT ρ):=vQ (λk=>z0o.Z11 N a b c k (λd=>K .ret (z87 d))) (f65t11 N a b c _) (f65t25 N K)
def f65t4 N a b c (K:KT ρ):=vQ (λk=>z0o.Z5 N a b c k (λd=>K .ret (z87 d))) (f65t5 N a b c _) (fx3 λa b c=>f65t10 N a b c K)
def f65t2 N a b c (K:KT ρ):=vQ (λk=>z0o.Z3 N a b c k (λd=>K .ret (z87 d))) (f65t3 N a b c _) (fx3 λa b c=>f65t4 N a b c K)
def f65t0 N a (K:KT ρ):=vQ (λk=>z0o.Z1 N a k) (f65t1 N a _) (fx3 λb c d=>f65t2 N b c d K)
def f65ok(h:z0o.Spec):z0a Tryz.prog 65 e65 :=
 okC Tryz.func65 z2q f65GOk (λN X K=>f65t0 N X.1 K) (by kernel_rfl) λX hb hp=>by
  obtain⟨a,_⟩:=X
  obtain⟨N,h⟩:=h a hb.1
  exact⟨N,Eq.trans (by kernel_rfl) (h N (Nat.le_refl N))⟩
def e65ok:z0a Tryz.prog 65 e65:=f65ok z0o.ok
end Go.Fw
namespace Go.Fw
variable {ρ : Type}
open Go.Proofs
def f72sig:Sig:=⟨[⟨.sl 3 (.int .i64),false,false⟩,⟨.int .i64,false,false⟩],[⟨.bool,false,false⟩]⟩
def e72:z24:=⟨f72sig,none,λX=>((),((z1x.g X.1 X.2.1),()))⟩
def f72G:Gm:=z1n
def f72GOk:GOk Tryz.prog f72G:=GOk.nil
def f72lE:z00:=⟨[],[],[],[],[]⟩
def f72s0(a:LI)(b:Int):St:=z1k f72sig.ps (a,(b,()))
def f72s1(a:LI)(b:Int):St:=z16 [(0,.c (.sn 3 tI a none)),(1,xi b)] [] []
def f72l1:z00:=⟨[0,1],[],[],[],[]⟩
def f72s2(a:LI)(b d:Int):St:=z16 [(0,.c (.sn 3 tI a none)),(1,xi b),(5,xi d)] [] []
def f72l2:z00:=⟨[0,1,5],[],[],[],[]⟩
def zsm :St:=z16 [] [] []
def f72l3:z00:=⟨[],[],[],[],[]⟩
def zpv(a:Bool):St:=z16 [(4,xB a)] [] []
def f72l4:z00:=⟨[4],[],[],[],[]⟩
def f72B:Nat->Option z00:=z17 [(0,f72l3),(1000000,f72l4)]
abbrev f72j{ρ:Type}(N n:Nat)(σ:St)(l:z00)(K:KT ρ):Option ρ:=z0p f72G tab f72B N (z2o 99 (z1q Tryz.f72) n) .n σ (z14 (some l) K)
def f72t1 N a b (K:KT ρ):f72j N 2 (f72s0 a b) f72l1 K =
 z1x.Z1 N a b (λa b=>K .nrm (f72s1 a b)):=by kernel_rfl
def f72t4 N a b (K:KT ρ):f72j N 9 (f72s1 a b) f72l2 K =
 z1x.Z4 N a b (λa b c=>K .nrm (f72s2 a b c)):=by kernel_rfl
def f72t7 N a b c (K:KT ρ):f72j N 37 (f72s2 a b c) f72l2 K =
 z1x.Z7 N a b c (λa b c=>K .nrm (f72s2 a b c)) (K (.exit 0) zsm) (λd=>K .ret (zpv d)):=by kernel_rfl
def f72t6L N (K:KT ρ):=lp3 K (z1x.Z6L N (K (.exit 0) zsm) (λa=>K .ret (zpv a))) (λb c d k=>z1x.Z7 N b c d k (K (.exit 0) zsm) (λa=>K .ret (zpv a))) (λF b c d=>f72t7 N b c d _) (by kernel_rfl)
def f72t6 N a b c (K:KT ρ):=vL (f72s2 a b c) (f72t6L N (jK f72l3 K) N a b c) (by kernel_rfl)
def f72t5 N a b c (K:KT ρ):=vB 0 f72l3 K (z1x.Z5 N a b c (K .nrm zsm) (λd=>K .ret (zpv d))) (f72t6 N a b c _) (by kernel_rfl)
def f72t3 N a b (K:KT ρ):=vQ (λk=>z1x.Z4 N a b k) (f72t4 N a b _) (fx3 λa b c=>f72t5 N a b c K)
def f72t8 N  (K:KT ρ):f72j N 7 zsm f72lE K =
 z1x.Z8 N (λa=>K .ret (zpv a)):=by kernel_rfl
def f72t2 N a b (K:KT ρ):=vQ (λk=>z1x.Z3 N a b k (λc=>K .ret (zpv c))) (f72t3 N a b _) (f72t8 N K)
def f72t0 N a b (K:KT ρ):=vQ (λk=>z1x.Z1 N a b k) (f72t1 N a b _) (fx2 λa b=>f72t2 N a b K)
def f72ok(h:z1x.Spec):z0a Tryz.prog 72 e72 :=
 okC Tryz.func72 z2q f72GOk (λN X K=>f72t0 N X.1 X.2.1 K) (by kernel_rfl) λX hb hp=>by
  obtain⟨a,b,_⟩:=X
  obtain⟨N,h⟩:=h a b hb.1
  exact⟨N,Eq.trans (by kernel_rfl) (h N (Nat.le_refl N))⟩
def e72ok:z0a Tryz.prog 72 e72:=f72ok z1x.ok
end Go.Fw
namespace Go.Fw
variable {ρ : Type}
open Go.Proofs
def f73sig:Sig:=⟨[⟨.pair (.int .i64) (.pair (.int .i64) (.sl 3 (.int .i64))),true,false⟩,⟨.int .i64,false,false⟩],[⟨.sl 3 (.int .i64),false,false⟩,⟨.sl 3 (.int .i64),false,false⟩]⟩
def e73:z24:=⟨f73sig,(some λX=>z0q.P X.1 X.2.1),λX=>((),((z0q.g X.1 X.2.1).1,((z0q.g X.1 X.2.1).2,())))⟩
def f73G:Gm:=z3m (z3m z1n 72 e72) 105 e105
def f73GOk:GOk Tryz.prog f73G:=((GOk.nil).add e72ok (by kernel_rfl)).add zgb (by kernel_rfl)
def f73lE:z00:=⟨[],[],[],[],[]⟩
def f73s0(a:MT)(b:Int):St:=z1k f73sig.ps (a,(b,()))
def f73s1(a b c:Int)(d:LI):St:=z16 [(1,xi a),(2,xb 2)] [(2,(27,[yi b,yi c,.sn 3 tI d none]))] []
def f73l1:z00:=⟨[1,2],[2],[],[],[]⟩
def f73s2(a:LI)(b c d:Int)(e:LI):St:=z16 [(1,xi b),(2,xb 2),(6,xo 1000384)] [(2,(27,[yi c,yi d,.sn 3 tI e none]))] [(1000384,(⟨3,.int .i64,a,true,false⟩:Row))]
def f73l2:z00:=⟨[1,2,6],[2],[],[],[(⟨false,6,0⟩,1000384)]⟩
def f73s3(a b:LI)(c d:Int)(e:LI):St:=z16 [(2,xb 2),(6,xo 1000384),(7,xo 1000448)] [(2,(27,[yi c,yi d,.sn 3 tI e none]))] [(1000384,(⟨3,.int .i64,a,true,false⟩:Row)),(1000448,(⟨3,.int .i64,b,true,false⟩:Row))]
def f73l3:z00:=⟨[2,6,7],[2],[],[],[(⟨false,6,0⟩,1000384),(⟨false,7,0⟩,1000448)]⟩
def zd4(a b:LI)(c d e:Int)(f:LI):St:=z16 [(2,xb 2),(6,xo 1000384),(7,xo 1000448),(8,xi c)] [(2,(27,[yi d,yi e,.sn 3 tI f none]))] [(1000384,(⟨3,.int .i64,a,true,false⟩:Row)),(1000448,(⟨3,.int .i64,b,true,false⟩:Row))]
def zk5:z00:=⟨[2,6,7,8],[2],[],[],[(⟨false,6,0⟩,1000384),(⟨false,7,0⟩,1000448)]⟩
def f73s5(a b:LI)(c d e f:Int)(g:LI):St:=z16 [(2,xb 2),(6,xo 1000384),(7,xo 1000448),(8,xi c),(9,xi d)] [(2,(27,[yi e,yi f,.sn 3 tI g none]))] [(1000384,(⟨3,.int .i64,a,true,false⟩:Row)),(1000448,(⟨3,.int .i64,b,true,false⟩:Row))]
def f73l5:z00:=⟨[2,6,7,8,9],[2],[],[],[(⟨false,6,0⟩,1000384),(⟨false,7,0⟩,1000448)]⟩
def zpu(a b:LI):St:=z16 [(6,xo 1000384),(7,xo 1000448)] [] [(1000384,(⟨3,.int .i64,a,true,false⟩:Row)),(1000448,(⟨3,.int .i64,b,true,false⟩:Row))]
def f73l6:z00:=⟨[6,7],[],[],[],[(⟨false,6,0⟩,1000384),(⟨false,7,0⟩,1000448)]⟩
def f73s7(a b:LI):St:=z16 [(4,xo 1000256),(5,xo 1000320)] [] [(1000256,(⟨3,.int .i64,a,true,false⟩:Row)),(1000320,(⟨3,.int .i64,b,true,false⟩:Row))]
def f73l7:z00:=⟨[4,5],[],[],[],[(⟨false,4,0⟩,1000256),(⟨false,5,0⟩,1000320)]⟩
def f73B:Nat->Option z00:=z17 [(2,zk5),(1,zk5),(0,f73l6),(1000000,f73l7)]
abbrev f73j{ρ:Type}(N n:Nat)(σ:St)(l:z00)(K:KT ρ):Option ρ:=z0p f73G tab f73B N (z2o 99 (z1q Tryz.f73) n) .n σ (z14 (some l) K)
def f73t1 N b a (K:KT ρ):f73j N 2 (f73s0 b a) f73l1 K =
 z0q.Z1 N b a (λa c d e=>K .nrm (f73s1 a c d e)):=by kernel_rfl
def f73t3 N a b c d (K:KT ρ):f73j N 5 (f73s1 a b c d) f73l2 K =
 z0q.Z3 N a b c d (λe a b c d=>K .nrm (f73s2 e a b c d)):=by kernel_rfl
def f73t5 N a e b c d (K:KT ρ):f73j N 11 (f73s2 a e b c d) f73l3 K =
 z0q.Z5 N a e b c d (λa f b c d=>K .nrm (f73s3 a f b c d)):=by kernel_rfl
def f73t8 N a b c d e (K:KT ρ):f73j N 39 (f73s3 a b c d e) zk5 K =
 z0q.Z8 N a b c d e (λa b f c d e=>K .nrm (zd4 a b f c d e)):=by kernel_rfl
def f73t12 N a b c d e f (K:KT ρ):f73j N 279 (zd4 a b c d e f) zk5 K =
 z0q.Z12 N a b c d e f (λa b c d e f=>K .nrm (zd4 a b c d e f)) (λa b=>K (.exit 0) (zpu a b)):=by kernel_rfl
def f73t16 N a b c d e f (K:KT ρ):f73j N 2199 (zd4 a b c d e f) f73l5 K =
 z0q.Z16 N a b c d e f (λa b c g d e f=>K .nrm (f73s5 a b c g d e f)):=by kernel_rfl
def f73t19 N a b c g d e f (K:KT ρ):f73j N 9367 (f73s5 a b c g d e f) f73l5 K =
 z0q.Z19 N a b c g d e f (λa b c g d e f=>K .nrm (f73s5 a b c g d e f)) (λa b c d e f=>K (.exit 2) (zd4 a b c d e f)):=by kernel_rfl
def f73t18L N (K:KT ρ):=lp7 K (z0q.Z18L N (λa b c d e f=>K (.exit 2) (zd4 a b c d e f))) (λa b c g d e f k=>z0q.Z19 N a b c g d e f k (λa b c d e f=>K (.exit 2) (zd4 a b c d e f))) (λF a b c g d e f=>f73t19 N a b c g d e f _) (by kernel_rfl)
def f73t18 N a b c d e f g (K:KT ρ):=vL (f73s5 a b c d e f g) (f73t18L N (jK zk5 K) N a b c d e f g) (by kernel_rfl)
def f73t17 N a b c g d e f (K:KT ρ):=vB 2 zk5 K (z0q.Z17 N a b c g d e f (λa b c d e f=>K .nrm (zd4 a b c d e f))) (f73t18 N a b c g d e f _) (by kernel_rfl)
def f73t15 N a b c d e f (K:KT ρ):=vQ (λk=>z0q.Z16 N a b c d e f k) (f73t16 N a b c d e f _) (fx7 λa b c g d e f=>f73t17 N a b c g d e f K)
def f73t14 N a b c d e f (K:KT ρ):=vB 1 zk5 K (z0q.Z14 N a b c d e f (λa b c d e f=>K .nrm (zd4 a b c d e f))) (f73t15 N a b c d e f _) (by kernel_rfl)
def f73t20 N a b c d e f (K:KT ρ):f73j N 919 (zd4 a b c d e f) zk5 K =
 z0q.Z20 N a b c d e f (λa b c d e f=>K .nrm (zd4 a b c d e f)):=by kernel_rfl
def f73t13 N a b c d e f (K:KT ρ):=vQ (λk=>z0q.Z14 N a b c d e f k) (f73t14 N a b c d e f _) (fx6 λa b c d e f=>f73t20 N a b c d e f K)
def f73t11 N a b c d e f (K:KT ρ):=vQ (λk=>z0q.Z12 N a b c d e f k (λa b=>K (.exit 0) (zpu a b))) (f73t12 N a b c d e f _) (fx6 λa b c d e f=>f73t13 N a b c d e f K)
def f73t10L N (K:KT ρ):=lp6 K (z0q.Z10L N (λa b=>K (.exit 0) (zpu a b))) (λa b c d e f k=>z0q.Z11 N a b c d e f k (λa b=>K (.exit 0) (zpu a b))) (λF a b c d e f=>f73t11 N a b c d e f _) (by kernel_rfl)
def f73t10 N a b c d e f (K:KT ρ):=vL (zd4 a b c d e f) (f73t10L N (jK f73l6 K) N a b c d e f) (by kernel_rfl)
def f73t9 N a b c d e f (K:KT ρ):=vB 0 f73l6 K (z0q.Z9 N a b c d e f (λa b=>K .nrm (zpu a b))) (f73t10 N a b c d e f _) (by kernel_rfl)
def f73t7 N a b c d e (K:KT ρ):=vQ (λk=>z0q.Z8 N a b c d e k) (f73t8 N a b c d e _) (fx6 λa b f c d e=>f73t9 N a b f c d e K)
def f73t21 N a b (K:KT ρ):f73j N 31 (zpu a b) f73lE K =
 z0q.Z21 N a b (λc d=>K .ret (f73s7 c d)):=by kernel_rfl
def f73t6 N a b c d e (K:KT ρ):=vQ (λk=>z0q.Z7 N a b c d e k) (f73t7 N a b c d e _) (fx2 λa b=>f73t21 N a b K)
def f73t4 N a e b c d (K:KT ρ):=vQ (λk=>z0q.Z5 N a e b c d k) (f73t5 N a e b c d _) (fx5 λa f b c d=>f73t6 N a f b c d K)
def f73t2 N a b c d (K:KT ρ):=vQ (λk=>z0q.Z3 N a b c d k) (f73t3 N a b c d _) (fx5 λe a b c d=>f73t4 N e a b c d K)
def f73t0 N b a (K:KT ρ):=vQ (λk=>z0q.Z1 N b a k) (f73t1 N b a _) (fx4 λa c d e=>f73t2 N a c d e K)
def f73ok(h:z0q.Spec):z0a Tryz.prog 73 e73 :=
 okC Tryz.func73 z2q f73GOk (λN X K=>f73t0 N X.1 X.2.1 K) (by kernel_rfl) λX hb hp=>by
  obtain⟨a,b,_⟩:=X
  obtain⟨N,h⟩:=h a b hb.1 hp
  exact⟨N,Eq.trans (by kernel_rfl) (h N (Nat.le_refl N))⟩
def e73ok:z0a Tryz.prog 73 e73:=f73ok z0q.ok
end Go.Fw
namespace Go.Fw
variable {ρ : Type}
open Go.Proofs
def ztk:Sig:=⟨[⟨.int .i64,false,false⟩],[⟨.int .i64,false,false⟩]⟩
def e106:z24:=⟨ztk,none,λX=>((),((z2l.g X.1),()))⟩
def f106G:Gm:=z1n
def f106GOk:GOk Tryz.prog f106G:=GOk.nil
def f106lE:z00:=⟨[],[],[],[],[]⟩
def f106s0(a:Int):St:=z1k ztk.ps (a,())
def f106s1(a:Int):St:=z16 [(2,xi a)] [] []
def f106l1:z00:=⟨[2],[],[],[],[]⟩
def f106B:Nat->Option z00:=z17 [(1000000,f106l1)]
abbrev f106j{ρ:Type}(N n:Nat)(σ:St)(l:z00)(K:KT ρ):Option ρ:=z0p f106G tab f106B N (z2o 99 (z1q Tryz.f106) n) .n σ (z14 (some l) K)
def f106t0 N a (K:KT ρ):f106j N 1 (f106s0 a) f106lE K =
 z2l.Z0 N a (λb=>K .ret (f106s1 b)):=by kernel_rfl
def f106ok(h:z2l.Spec):z0a Tryz.prog 106 e106 :=
 okC Tryz.func106 z2q f106GOk (λN X K=>f106t0 N X.1 K) (by kernel_rfl) λX hb hp=>by
  obtain⟨a,_⟩:=X
  obtain⟨N,h⟩:=h a
  exact⟨N,Eq.trans (by kernel_rfl) (h N (Nat.le_refl N))⟩
def e106ok:z0a Tryz.prog 106 e106:=f106ok z2l.ok
end Go.Fw
namespace Go.Fw
variable {ρ : Type}
open Go.Proofs
def zti:Sig:=⟨[⟨.int .i64,false,false⟩,⟨.int .i64,false,false⟩],[⟨.int .i64,false,false⟩]⟩
def e107:z24:=⟨zti,(some λX=>z2f.P X.1 X.2.1),λX=>((),((z2f.g X.1 X.2.1),()))⟩
def f107G:Gm:=z1n
def f107GOk:GOk Tryz.prog f107G:=GOk.nil
def f107lE:z00:=⟨[],[],[],[],[]⟩
def f107s0(a b:Int):St:=z1k zti.ps (a,(b,()))
def zoa(a b:Int):St:=z16 [(0,xi a),(1,xi b)] [] []
def f107l1:z00:=⟨[0,1],[],[],[],[]⟩
def zkn(a:Int):St:=z16 [(0,xi a)] [] []
def ztj:z00:=⟨[0],[],[],[],[]⟩
def f107s3(a:Int):St:=z16 [(4,xi a)] [] []
def f107l3:z00:=⟨[4],[],[],[],[]⟩
def f107B:Nat->Option z00:=z17 [(0,ztj),(1000000,f107l3)]
abbrev f107j{ρ:Type}(N n:Nat)(σ:St)(l:z00)(K:KT ρ):Option ρ:=z0p f107G tab f107B N (z2o 99 (z1q Tryz.f107) n) .n σ (z14 (some l) K)
def f107t1 N a b (K:KT ρ):f107j N 2 (f107s0 a b) f107l1 K =
 z2f.Z1 N a b (λa b=>K .nrm (zoa a b)):=by kernel_rfl
def f107t5 N a b (K:KT ρ):f107j N 17 (zoa a b) f107l1 K =
 z2f.Z5 N a b (λa b=>K .nrm (zoa a b)) (λa=>K (.exit 0) (zkn a)):=by kernel_rfl
def f107t4L N (K:KT ρ):=lp2 K (z2f.Z4L N (λa=>K (.exit 0) (zkn a))) (λa b k=>z2f.Z5 N a b k (λa=>K (.exit 0) (zkn a))) (λF a b=>f107t5 N a b _) (by kernel_rfl)
def f107t4 N a b (K:KT ρ):=vL (zoa a b) (f107t4L N (jK ztj K) N a b) (by kernel_rfl)
def f107t3 N a b (K:KT ρ):=vB 0 ztj K (z2f.Z3 N a b (λa=>K .nrm (zkn a))) (f107t4 N a b _) (by kernel_rfl)
def f107t6 N a (K:KT ρ):f107j N 7 (zkn a) f107lE K =
 z2f.Z6 N a (λb=>K .ret (f107s3 b)):=by kernel_rfl
def f107t2 N a b (K:KT ρ):=vQ (λk=>z2f.Z3 N a b k) (f107t3 N a b _) (funext λa=>f107t6 N a K)
def f107t0 N a b (K:KT ρ):=vQ (λk=>z2f.Z1 N a b k) (f107t1 N a b _) (fx2 λa b=>f107t2 N a b K)
def f107ok(h:z2f.Spec):z0a Tryz.prog 107 e107 :=
 okC Tryz.func107 z2q f107GOk (λN X K=>f107t0 N X.1 X.2.1 K) (by kernel_rfl) λX hb hp=>by
  obtain⟨a,b,_⟩:=X
  obtain⟨N,h⟩:=h a b hp
  exact⟨N,Eq.trans (by kernel_rfl) (h N (Nat.le_refl N))⟩
def e107ok:z0a Tryz.prog 107 e107:=f107ok z2f.ok
end Go.Fw
namespace Go.Fw
variable {ρ : Type}
open Go.Proofs
def f66sig:Sig:=⟨[⟨.pair (.int .i64) (.pair (.int .i64) (.sl 3 (.int .i64))),true,false⟩],[⟨.sl 3 (.int .i64),false,false⟩,⟨.bool,false,false⟩]⟩
def e66:z24:=⟨f66sig,(some λX=>z02.P X.1),λX=>((),((z02.g X.1).1,((z02.g X.1).2,())))⟩
def f66G:Gm:=z3m (z3m (z3m (z3m z1n 73 e73) 105 e105) 106 e106) 107 e107
def f66GOk:GOk Tryz.prog f66G:=((((GOk.nil).add e73ok (by kernel_rfl)).add zgb (by kernel_rfl)).add e106ok (by kernel_rfl)).add e107ok (by kernel_rfl)
def f66lE:z00:=⟨[],[],[],[],[]⟩
def f66s0(a:MT):St:=z1k f66sig.ps (a,())
def f66s1(a b:Int)(c:LI):St:=z16 [(1,xb 1)] [(1,(27,[yi a,yi b,.sn 3 tI c none]))] []
def f66l1:z00:=⟨[1],[1],[],[],[]⟩
def zk6(a:LI)(b c:Int)(d:LI):St:=z16 [(1,xb 1),(4,xo 1000256)] [(1,(27,[yi b,yi c,.sn 3 tI d none]))] [(1000256,(⟨3,.int .i64,a,true,false⟩:Row))]
def f66l2:z00:=⟨[1,4],[1],[],[],[(⟨false,4,0⟩,1000256)]⟩
def z9h(a:LI)(b c d:Int)(e:LI):St:=z16 [(1,xb 1),(4,xo 1000256),(5,xi b)] [(1,(27,[yi c,yi d,.sn 3 tI e none]))] [(1000256,(⟨3,.int .i64,a,true,false⟩:Row))]
def zhn:z00:=⟨[1,4,5],[1],[],[],[(⟨false,4,0⟩,1000256)]⟩
def zhm(a b c:LI)(d e f:Int)(g:LI):St:=z16 [(1,xb 1),(4,xo 1000256),(5,xi d),(6,xo 1000384),(7,xo 1000448)] [(1,(27,[yi e,yi f,.sn 3 tI g none]))] [(1000256,(⟨3,.int .i64,a,true,false⟩:Row)),(1000384,(⟨3,.int .i64,b,true,false⟩:Row)),(1000448,(⟨3,.int .i64,c,true,false⟩:Row))]
def zso:z00:=⟨[1,4,5,6,7],[1],[],[],[(⟨false,4,0⟩,1000256),(⟨false,6,0⟩,1000384),(⟨false,7,0⟩,1000448)]⟩
def f66s5(a b c:LI)(d e f g:Int)(h:LI):St:=z16 [(1,xb 1),(4,xo 1000256),(5,xi d),(6,xo 1000384),(7,xo 1000448),(8,xi e)] [(1,(27,[yi f,yi g,.sn 3 tI h none]))] [(1000256,(⟨3,.int .i64,a,true,false⟩:Row)),(1000384,(⟨3,.int .i64,b,true,false⟩:Row)),(1000448,(⟨3,.int .i64,c,true,false⟩:Row))]
def f66l5:z00:=⟨[1,4,5,6,7,8],[1],[],[],[(⟨false,4,0⟩,1000256),(⟨false,6,0⟩,1000384),(⟨false,7,0⟩,1000448)]⟩
def f66s6(a b c:LI)(d e f g:Int)(h:LI):St:=z16 [(1,xb 1),(4,xo 1000256),(5,xi d),(6,xo 1000384),(7,xo 1000448),(9,xi e)] [(1,(27,[yi f,yi g,.sn 3 tI h none]))] [(1000256,(⟨3,.int .i64,a,true,false⟩:Row)),(1000384,(⟨3,.int .i64,b,true,false⟩:Row)),(1000448,(⟨3,.int .i64,c,true,false⟩:Row))]
def f66l6:z00:=⟨[1,4,5,6,7,9],[1],[],[],[(⟨false,4,0⟩,1000256),(⟨false,6,0⟩,1000384),(⟨false,7,0⟩,1000448)]⟩
def f66s7(a b c:LI)(d e f g h:Int)(i:LI):St:=z16 [(1,xb 1),(4,xo 1000256),(5,xi d),(6,xo 1000384),(7,xo 1000448),(9,xi e),(10,xi f)] [(1,(27,[yi g,yi h,.sn 3 tI i none]))] [(1000256,(⟨3,.int .i64,a,true,false⟩:Row)),(1000384,(⟨3,.int .i64,b,true,false⟩:Row)),(1000448,(⟨3,.int .i64,c,true,false⟩:Row))]
def f66l7:z00:=⟨[1,4,5,6,7,9,10],[1],[],[],[(⟨false,4,0⟩,1000256),(⟨false,6,0⟩,1000384),(⟨false,7,0⟩,1000448)]⟩
def zsn(a b:LI)(c d e f:Int)(g:LI):St:=z16 [(1,xb 1),(4,xo 1000256),(5,xi c),(6,xo 1000384),(9,xi d)] [(1,(27,[yi e,yi f,.sn 3 tI g none]))] [(1000256,(⟨3,.int .i64,a,true,false⟩:Row)),(1000384,(⟨3,.int .i64,b,true,false⟩:Row))]
def f66l8:z00:=⟨[1,4,5,6,9],[1],[],[],[(⟨false,4,0⟩,1000256),(⟨false,6,0⟩,1000384)]⟩
def f66s9(a b:LI)(c d e f g:Int)(h:LI):St:=z16 [(1,xb 1),(4,xo 1000256),(5,xi c),(6,xo 1000384),(9,xi d),(11,xi e)] [(1,(27,[yi f,yi g,.sn 3 tI h none]))] [(1000256,(⟨3,.int .i64,a,true,false⟩:Row)),(1000384,(⟨3,.int .i64,b,true,false⟩:Row))]
def f66l9:z00:=⟨[1,4,5,6,9,11],[1],[],[],[(⟨false,4,0⟩,1000256),(⟨false,6,0⟩,1000384)]⟩
def z80(a:LI)(b c d:Int)(e:LI):St:=z16 [(1,xb 1),(4,xo 1000256),(12,xi b)] [(1,(27,[yi c,yi d,.sn 3 tI e none]))] [(1000256,(⟨3,.int .i64,a,true,false⟩:Row))]
def zcp:z00:=⟨[1,4,12],[1],[],[],[(⟨false,4,0⟩,1000256)]⟩
def zny(a:LI)(b c d e:Int)(f:LI):St:=z16 [(1,xb 1),(4,xo 1000256),(12,xi b),(13,xi c)] [(1,(27,[yi d,yi e,.sn 3 tI f none]))] [(1000256,(⟨3,.int .i64,a,true,false⟩:Row))]
def f66l11:z00:=⟨[1,4,12,13],[1],[],[],[(⟨false,4,0⟩,1000256)]⟩
def zg5(a:LI):St:=z16 [(4,xo 1000256)] [] [(1000256,(⟨3,.int .i64,a,true,false⟩:Row))]
def zsp:z00:=⟨[4],[],[],[],[(⟨false,4,0⟩,1000256)]⟩
def z8q(a:LI)(b:Bool):St:=z16 [(2,xo 1000128),(3,xB b)] [] [(1000128,(⟨3,.int .i64,a,true,false⟩:Row))]
def f66l13:z00:=⟨[2,3],[],[⟨⟨false,2,0⟩,30000000,3,.int .i64,true⟩],[],[(⟨false,2,0⟩,1000128)]⟩
def f66B:Nat->Option z00:=z17 [(2,zso),(4,f66l8),(6,zhn),(1,zhn),(0,f66l2),(10,zcp),(9,zcp),(8,zsp),(1000000,f66l13)]
abbrev zf6{ρ:Type}(N n:Nat)(σ:St)(l:z00)(K:KT ρ):Option ρ:=z0p f66G tab f66B N (z2o 99 (z1q Tryz.f66) n) .n σ (z14 (some l) K)
def f66t1 N a (K:KT ρ):zf6 N 2 (f66s0 a) f66l1 K =
 z02.Z1 N a (λb c d=>K .nrm (f66s1 b c d)):=by kernel_rfl
def f66t3 N a b c (K:KT ρ):zf6 N 5 (f66s1 a b c) f66l2 K =
 z02.Z3 N a b c (λd a b c=>K .nrm (zk6 d a b c)):=by kernel_rfl
def f66t6 N a b c d (K:KT ρ):zf6 N 19 (zk6 a b c d) zhn K =
 z02.Z6 N a b c d (λa e b c d=>K .nrm (z9h a e b c d)):=by kernel_rfl
def f66t10 N a e b c d (K:KT ρ):zf6 N 139 (z9h a e b c d) zhn K =
 z02.Z10 N a e b c d (λa e b c d=>K .nrm (z9h a e b c d)) (λa b c d=>K (.exit 0) (zk6 a b c d)):=by kernel_rfl
def f66t14 N a b c d e (K:KT ρ):zf6 N 1099 (z9h a b c d e) zhn K =
 z02.Z14 N a b c d e (λa b c d e=>K .nrm (z9h a b c d e)) (λa b c d e=>K (.exit 1) (z9h a b c d e)):=by kernel_rfl
def f66t16 N a b c d e (K:KT ρ):zf6 N 2635 (z9h a b c d e) zso K =
 z02.Z16 N a b c d e (λa f g b c d e=>K .nrm (zhm a f g b c d e)):=by kernel_rfl
def f66t18 N a b c d e f g (K:KT ρ):zf6 N 5707 (zhm a b c d e f g) zso K =
 z02.Z18 N a b c d e f g (λa b c d e f g=>K .nrm (zhm a b c d e f g)):=by kernel_rfl
def f66t21 N a b c d e f g (K:KT ρ):zf6 N 20043 (zhm a b c d e f g) f66l5 K =
 z02.Z21 N a b c d e f g (λa b c d h e f g=>K .nrm (f66s5 a b c d h e f g)):=by kernel_rfl
def f66t24 N a b c d h e f g (K:KT ρ):zf6 N 77387 (f66s5 a b c d h e f g) f66l5 K =
 z02.Z24 N a b c d h e f g (λa b c d h e f g=>K .nrm (f66s5 a b c d h e f g)) (λa b c d e f g=>K (.exit 2) (zhm a b c d e f g)):=by kernel_rfl
def f66t23L N (K:KT ρ):=lp8 K (z02.Z23L N (λa b c d e f g=>K (.exit 2) (zhm a b c d e f g))) (λa b c d h e f g k=>z02.Z24 N a b c d h e f g k (λa b c d e f g=>K (.exit 2) (zhm a b c d e f g))) (λF a b c d h e f g=>f66t24 N a b c d h e f g _) (by kernel_rfl)
def f66t23 N a b c d e f g h (K:KT ρ):=vL (f66s5 a b c d e f g h) (f66t23L N (jK zso K) N a b c d e f g h) (by kernel_rfl)
def f66t22 N a b c d h e f g (K:KT ρ):=vB 2 zso K (z02.Z22 N a b c d h e f g (λa b c d e f g=>K .nrm (zhm a b c d e f g))) (f66t23 N a b c d h e f g _) (by kernel_rfl)
def f66t20 N a b c d e f g (K:KT ρ):=vQ (λk=>z02.Z21 N a b c d e f g k) (f66t21 N a b c d e f g _) (fx8 λa b c d h e f g=>f66t22 N a b c d h e f g K)
def f66t26 N a b c d e f g (K:KT ρ):zf6 N 24139 (zhm a b c d e f g) f66l6 K =
 z02.Z26 N a b c d e f g (λa b c d h e f g=>K .nrm (f66s6 a b c d h e f g)):=by kernel_rfl
def f66t29 N a b c d e f g h (K:KT ρ):zf6 N 81483 (f66s6 a b c d e f g h) f66l7 K =
 z02.Z29 N a b c d e f g h (λa b c d e i f g h=>K .nrm (f66s7 a b c d e i f g h)):=by kernel_rfl
def f66t32 N a b h c d i e f g (K:KT ρ):zf6 N 310859 (f66s7 a b h c d i e f g) f66l7 K =
 z02.Z32 N a b h c d i e f g (λa b h c d i e f g=>K .nrm (f66s7 a b h c d i e f g)) (λa b c d e f g=>K (.exit 4) (zsn a b c d e f g)):=by kernel_rfl
def f66t31L N (K:KT ρ):=lp9 K (z02.Z31L N (λa b c d e f g=>K (.exit 4) (zsn a b c d e f g))) (λa b h c d i e f g k=>z02.Z32 N a b h c d i e f g k (λa b c d e f g=>K (.exit 4) (zsn a b c d e f g))) (λF a b h c d i e f g=>f66t32 N a b h c d i e f g _) (by kernel_rfl)
def f66t31 N a b c d e f g h i (K:KT ρ):=vL (f66s7 a b c d e f g h i) (f66t31L N (jK f66l8 K) N a b c d e f g h i) (by kernel_rfl)
def f66t30 N a b h c d i e f g (K:KT ρ):=vB 4 f66l8 K (z02.Z30 N a b h c d i e f g (λa b c d e f g=>K .nrm (zsn a b c d e f g))) (f66t31 N a b h c d i e f g _) (by kernel_rfl)
def f66t28 N a b c d e f g h (K:KT ρ):=vQ (λk=>z02.Z29 N a b c d e f g h k) (f66t29 N a b c d e f g h _) (fx9 λa b c d e i f g h=>f66t30 N a b c d e i f g h K)
def f66t34 N a b c d e f g (K:KT ρ):zf6 N 97867 (zsn a b c d e f g) f66l9 K =
 z02.Z34 N a b c d e f g (λa b c d h e f g=>K .nrm (f66s9 a b c d h e f g)):=by kernel_rfl
def f66t37 N a f b g h c d e (K:KT ρ):zf6 N 327243 (f66s9 a f b g h c d e) f66l9 K =
 z02.Z37 N a f b g h c d e (λa f b g h c d e=>K .nrm (f66s9 a f b g h c d e)) (λa b c d e=>K (.exit 6) (z9h a b c d e)):=by kernel_rfl
def f66t36L N (K:KT ρ):=lp8 K (z02.Z36L N (λa b c d e=>K (.exit 6) (z9h a b c d e))) (λa f b g h c d e k=>z02.Z37 N a f b g h c d e k (λa b c d e=>K (.exit 6) (z9h a b c d e))) (λF a f b g h c d e=>f66t37 N a f b g h c d e _) (by kernel_rfl)
def f66t36 N a b c d e f g h (K:KT ρ):=vL (f66s9 a b c d e f g h) (f66t36L N (jK zhn K) N a b c d e f g h) (by kernel_rfl)
def f66t35 N a f b g h c d e (K:KT ρ):=vB 6 zhn K (z02.Z35 N a f b g h c d e (λa b c d e=>K .nrm (z9h a b c d e))) (f66t36 N a f b g h c d e _) (by kernel_rfl)
def f66t33 N a b c d e f g (K:KT ρ):=vQ (λk=>z02.Z34 N a b c d e f g k) (f66t34 N a b c d e f g _) (fx8 λa b c d h e f g=>f66t35 N a b c d h e f g K)
def f66t27 N a b h c d e f g (K:KT ρ):=vQ (λk=>z02.Z28 N a b h c d e f g k) (f66t28 N a b h c d e f g _) (fx7 λa b c d e f g=>f66t33 N a b c d e f g K)
def f66t25 N a b c d e f g (K:KT ρ):=vQ (λk=>z02.Z26 N a b c d e f g k) (f66t26 N a b c d e f g _) (fx8 λa b c d h e f g=>f66t27 N a b c d h e f g K)
def f66t19 N a b c d e f g (K:KT ρ):=vQ (λk=>z02.Z20 N a b c d e f g k) (f66t20 N a b c d e f g _) (fx7 λa b c d e f g=>f66t25 N a b c d e f g K)
def f66t17 N a b c d e f g (K:KT ρ):=vQ (λk=>z02.Z18 N a b c d e f g k) (f66t18 N a b c d e f g _) (fx7 λa b c d e f g=>f66t19 N a b c d e f g K)
def f66t15 N a b c d e (K:KT ρ):=vQ (λk=>z02.Z16 N a b c d e k) (f66t16 N a b c d e _) (fx7 λa f g b c d e=>f66t17 N a f g b c d e K)
def f66t13 N a b c d e (K:KT ρ):=vQ (λk=>z02.Z14 N a b c d e k (λa b c d e=>K (.exit 1) (z9h a b c d e))) (f66t14 N a b c d e _) (fx5 λa b c d e=>f66t15 N a b c d e K)
def f66t12 N a b c d e (K:KT ρ):=vB 1 zhn K (z02.Z12 N a b c d e (λa b c d e=>K .nrm (z9h a b c d e))) (f66t13 N a b c d e _) (by kernel_rfl)
def f66t38 N a b c d e (K:KT ρ):zf6 N 459 (z9h a b c d e) zhn K =
 z02.Z38 N a b c d e (λa b c d e=>K .nrm (z9h a b c d e)):=by kernel_rfl
def f66t11 N a b c d e (K:KT ρ):=vQ (λk=>z02.Z12 N a b c d e k) (f66t12 N a b c d e _) (fx5 λa b c d e=>f66t38 N a b c d e K)
def f66t9 N a e b c d (K:KT ρ):=vQ (λk=>z02.Z10 N a e b c d k (λa b c d=>K (.exit 0) (zk6 a b c d))) (f66t10 N a e b c d _) (fx5 λa e b c d=>f66t11 N a e b c d K)
def f66t8L N (K:KT ρ):=lp5 K (z02.Z8L N (λa b c d=>K (.exit 0) (zk6 a b c d))) (λa e b c d k=>z02.Z9 N a e b c d k (λa b c d=>K (.exit 0) (zk6 a b c d))) (λF a e b c d=>f66t9 N a e b c d _) (by kernel_rfl)
def f66t8 N a b c d e (K:KT ρ):=vL (z9h a b c d e) (f66t8L N (jK f66l2 K) N a b c d e) (by kernel_rfl)
def f66t7 N a e b c d (K:KT ρ):=vB 0 f66l2 K (z02.Z7 N a e b c d (λa b c d=>K .nrm (zk6 a b c d))) (f66t8 N a e b c d _) (by kernel_rfl)
def f66t5 N a b c d (K:KT ρ):=vQ (λk=>z02.Z6 N a b c d k) (f66t6 N a b c d _) (fx5 λa e b c d=>f66t7 N a e b c d K)
def f66t41 N a b c d (K:KT ρ):zf6 N 39 (zk6 a b c d) zcp K =
 z02.Z41 N a b c d (λa e b c d=>K .nrm (z80 a e b c d)):=by kernel_rfl
def f66t45 N a b c d e (K:KT ρ):zf6 N 279 (z80 a b c d e) zcp K =
 z02.Z45 N a b c d e (λa b c d e=>K .nrm (z80 a b c d e)) (λa=>K (.exit 8) (zg5 a)):=by kernel_rfl
def f66t49 N a b c d e (K:KT ρ):zf6 N 2199 (z80 a b c d e) f66l11 K =
 z02.Z49 N a b c d e (λa b f c d e=>K .nrm (zny a b f c d e)):=by kernel_rfl
def f66t52 N a b f c d e (K:KT ρ):zf6 N 9367 (zny a b f c d e) f66l11 K =
 z02.Z52 N a b f c d e (λa b f c d e=>K .nrm (zny a b f c d e)) (λa b c d e=>K (.exit 10) (z80 a b c d e)) (λg h=>K .ret (z8q g h)):=by kernel_rfl
def f66t51L N (K:KT ρ):=lp6 K (z02.Z51L N (λa b c d e=>K (.exit 10) (z80 a b c d e)) (λf g=>K .ret (z8q f g))) (λa b h c d e k=>z02.Z52 N a b h c d e k (λa b c d e=>K (.exit 10) (z80 a b c d e)) (λf g=>K .ret (z8q f g))) (λF a b h c d e=>f66t52 N a b h c d e _) (by kernel_rfl)
def f66t51 N a b c d e f (K:KT ρ):=vL (zny a b c d e f) (f66t51L N (jK zcp K) N a b c d e f) (by kernel_rfl)
def f66t50 N a b f c d e (K:KT ρ):=vB 10 zcp K (z02.Z50 N a b f c d e (λa b c d e=>K .nrm (z80 a b c d e)) (λg h=>K .ret (z8q g h))) (f66t51 N a b f c d e _) (by kernel_rfl)
def f66t48 N a b c d e (K:KT ρ):=vQ (λk=>z02.Z49 N a b c d e k) (f66t49 N a b c d e _) (fx6 λa b f c d e=>f66t50 N a b f c d e K)
def f66t47 N a b c d e (K:KT ρ):=vB 9 zcp K (z02.Z47 N a b c d e (λa b c d e=>K .nrm (z80 a b c d e)) (λf g=>K .ret (z8q f g))) (f66t48 N a b c d e _) (by kernel_rfl)
def f66t53 N a b c d e (K:KT ρ):zf6 N 919 (z80 a b c d e) zcp K =
 z02.Z53 N a b c d e (λa b c d e=>K .nrm (z80 a b c d e)):=by kernel_rfl
def f66t46 N a b c d e (K:KT ρ):=vQ (λk=>z02.Z47 N a b c d e k (λf g=>K .ret (z8q f g))) (f66t47 N a b c d e _) (fx5 λa b c d e=>f66t53 N a b c d e K)
def f66t44 N a b c d e (K:KT ρ):=vQ (λk=>z02.Z45 N a b c d e k (λa=>K (.exit 8) (zg5 a))) (f66t45 N a b c d e _) (fx5 λa b c d e=>f66t46 N a b c d e K)
def f66t43L N (K:KT ρ):=lp5 K (z02.Z43L N (λa=>K (.exit 8) (zg5 a)) (λb c=>K .ret (z8q b c))) (λa d e f g k=>z02.Z44 N a d e f g k (λa=>K (.exit 8) (zg5 a)) (λb c=>K .ret (z8q b c))) (λF a d e f g=>f66t44 N a d e f g _) (by kernel_rfl)
def f66t43 N a b c d e (K:KT ρ):=vL (z80 a b c d e) (f66t43L N (jK zsp K) N a b c d e) (by kernel_rfl)
def f66t42 N a b c d e (K:KT ρ):=vB 8 zsp K (z02.Z42 N a b c d e (λa=>K .nrm (zg5 a)) (λf g=>K .ret (z8q f g))) (f66t43 N a b c d e _) (by kernel_rfl)
def f66t40 N a b c d (K:KT ρ):=vQ (λk=>z02.Z41 N a b c d k) (f66t41 N a b c d _) (fx5 λa e b c d=>f66t42 N a e b c d K)
def f66t54 N a (K:KT ρ):zf6 N 31 (zg5 a) f66lE K =
 z02.Z54 N a (λb c=>K .ret (z8q b c)):=by kernel_rfl
def f66t39 N a b c d (K:KT ρ):=vQ (λk=>z02.Z40 N a b c d k (λe f=>K .ret (z8q e f))) (f66t40 N a b c d _) (funext λa=>f66t54 N a K)
def f66t4 N a b c d (K:KT ρ):=vQ (λk=>z02.Z5 N a b c d k) (f66t5 N a b c d _) (fx4 λa b c d=>f66t39 N a b c d K)
def f66t2 N a b c (K:KT ρ):=vQ (λk=>z02.Z3 N a b c k) (f66t3 N a b c _) (fx4 λd a b c=>f66t4 N d a b c K)
def f66t0 N a (K:KT ρ):=vQ (λk=>z02.Z1 N a k) (f66t1 N a _) (fx3 λb c d=>f66t2 N b c d K)
def f66ok(h:z02.Spec):z0a Tryz.prog 66 e66 :=
 okC Tryz.func66 z2q f66GOk (λN X K=>f66t0 N X.1 K) (by kernel_rfl) λX hb hp=>by
  obtain⟨a,_⟩:=X
  obtain⟨N,h⟩:=h a hb.1 hp
  exact⟨N,Eq.trans (by kernel_rfl) (h N (Nat.le_refl N))⟩
def e66ok:z0a Tryz.prog 66 e66:=f66ok z02.ok
end Go.Fw
namespace Go.Fw
variable {ρ : Type}
open Go.Proofs
def f25sig:Sig:=⟨[⟨.pair (.int .i64) (.pair (.int .i64) (.sl 3 (.int .i64))),true,false⟩],[⟨.bool,false,false⟩]⟩
def e25:z24:=⟨f25sig,none,λX=>((),((z2r.g X.1),()))⟩
def f25G:Gm:=z3m (z3m z1n 65 e65) 66 e66
def f25GOk:GOk Tryz.prog f25G:=((GOk.nil).add e65ok (by kernel_rfl)).add e66ok (by kernel_rfl)
def f25lE:z00:=⟨[],[],[],[],[]⟩
def f25s0(a:MT):St:=z1k f25sig.ps (a,())
def f25s1(a:Bool):St:=z16 [(2,xB a)] [] []
def f25l1:z00:=⟨[2],[],[],[],[]⟩
def f25B:Nat->Option z00:=z17 [(1000000,f25l1)]
abbrev f25j{ρ:Type}(N n:Nat)(σ:St)(l:z00)(K:KT ρ):Option ρ:=z0p f25G tab f25B N (z2o 99 (z1q Tryz.f25) n) .n σ (z14 (some l) K)
def f25t0 N a (K:KT ρ):f25j N 1 (f25s0 a) f25lE K =
 z2r.Z0 N a (λb=>K .ret (f25s1 b)):=by kernel_rfl
def f25ok(h:z2r.Spec):z0a Tryz.prog 25 e25 :=
 okC Tryz.func25 z2q f25GOk (λN X K=>f25t0 N X.1 K) (by kernel_rfl) λX hb hp=>by
  obtain⟨a,_⟩:=X
  obtain⟨N,h⟩:=h a hb.1
  exact⟨N,Eq.trans (by kernel_rfl) (h N (Nat.le_refl N))⟩
def e25ok:z0a Tryz.prog 25 e25:=f25ok z2r.ok
end Go.Fw
namespace Go.Fw
variable {ρ : Type}
open Go.Proofs
def f46sig:Sig:=⟨[⟨.sl 3 (.int .i64),false,false⟩],[⟨.sl 3 (.int .i64),false,false⟩]⟩
def e46:z24:=⟨f46sig,(some λX=>z19.P X.1),λX=>((),((z19.g X.1),()))⟩
def f46G:Gm:=z1n
def f46GOk:GOk Tryz.prog f46G:=GOk.nil
def f46lE:z00:=⟨[],[],[],[],[]⟩
def f46s0(a:LI):St:=z1k f46sig.ps (a,())
def f46s1(a:LI):St:=z16 [(2,xo 1000128)] [] [(1000128,(⟨3,.int .i64,a,true,false⟩:Row))]
def f46l1:z00:=⟨[2],[],[],[],[(⟨false,2,0⟩,1000128)]⟩
def f46B:Nat->Option z00:=z17 [(1000000,f46l1)]
abbrev f46j{ρ:Type}(N n:Nat)(σ:St)(l:z00)(K:KT ρ):Option ρ:=z0p f46G tab f46B N (z2o 99 (z1q Tryz.f46) n) .n σ (z14 (some l) K)
def f46t0 N a (K:KT ρ):f46j N 1 (f46s0 a) f46lE K =
 z19.Z0 N a (λb=>K .ret (f46s1 b)):=by kernel_rfl
def f46ok(h:z19.Spec):z0a Tryz.prog 46 e46 :=
 okC Tryz.func46 z2q f46GOk (λN X K=>f46t0 N X.1 K) (by kernel_rfl) λX hb hp=>by
  obtain⟨a,_⟩:=X
  obtain⟨N,h⟩:=h a hb.1 hp
  exact⟨N,Eq.trans (by kernel_rfl) (h N (Nat.le_refl N))⟩
def e46ok:z0a Tryz.prog 46 e46:=f46ok z19.ok
end Go.Fw
namespace Go.Fw
variable {ρ : Type}
open Go.Proofs
def f84sig:Sig:=⟨[⟨.pair (.int .i64) (.pair (.int .i64) (.sl 3 (.int .i64))),true,false⟩],[⟨.pair (.int .i64) (.pair (.int .i64) (.sl 3 (.int .i64))),true,false⟩]⟩
def e84:z24:=⟨f84sig,none,λX=>((),((z2y.g X.1),()))⟩
def f84G:Gm:=z3m (z3m z1n 25 e25) 46 e46
def f84GOk:GOk Tryz.prog f84G:=((GOk.nil).add e25ok (by kernel_rfl)).add e46ok (by kernel_rfl)
def f84lE:z00:=⟨[],[],[],[],[]⟩
def f84s0(a:MT):St:=z1k f84sig.ps (a,())
def f84s1(a:LI)(b c:Int):St:=z16 [(2,xb 2)] [(2,(27,[yi b,yi c,.own 20000130]))] [(20000130,(⟨3,.int .i64,a,true,false⟩:Row))]
def f84l1:z00:=⟨[2],[2],[⟨⟨true,2,2⟩,30000000,3,.int .i64,true⟩],[],[(⟨true,2,2⟩,20000130)]⟩
def f84B:Nat->Option z00:=z17 [(1000000,f84l1)]
abbrev f84j{ρ:Type}(N n:Nat)(σ:St)(l:z00)(K:KT ρ):Option ρ:=z0p f84G tab f84B N (z2o 99 (z1q Tryz.f84) n) .n σ (z14 (some l) K)
def f84t0 N a (K:KT ρ):f84j N 1 (f84s0 a) f84lE K =
 z2y.Z0 N a (λb c d=>K .ret (f84s1 b c d)):=by kernel_rfl
def f84ok(h:z2y.Spec):z0a Tryz.prog 84 e84 :=
 okC Tryz.func84 z2q f84GOk (λN X K=>f84t0 N X.1 K) (by kernel_rfl) λX hb hp=>by
  obtain⟨a,_⟩:=X
  obtain⟨N,h⟩:=h a hb.1
  exact⟨N,Eq.trans (by kernel_rfl) (h N (Nat.le_refl N))⟩
def e84ok:z0a Tryz.prog 84 e84:=f84ok z2y.ok
end Go.Fw
namespace Go.Fw
variable {ρ : Type}
open Go.Proofs
def f70sig:Sig:=⟨[⟨.pair (.int .i64) (.pair (.int .i64) (.sl 3 (.int .i64))),true,false⟩],[⟨.pair (.int .i64) (.pair (.int .i64) (.sl 3 (.int .i64))),true,false⟩]⟩
def e70:z24:=⟨f70sig,(some λX=>z0t.P X.1),λX=>((),((z0t.g X.1),()))⟩
def f70G:Gm:=z3m z1n 46 e46
def f70GOk:GOk Tryz.prog f70G:=(GOk.nil).add e46ok (by kernel_rfl)
def f70lE:z00:=⟨[],[],[],[],[]⟩
def f70s0(a:MT):St:=z1k f70sig.ps (a,())
def f70s1(a:LI)(b c:Int):St:=z16 [(2,xb 2)] [(2,(27,[yi b,yi c,.own 20000130]))] [(20000130,(⟨3,.int .i64,a,true,false⟩:Row))]
def f70l1:z00:=⟨[2],[2],[],[],[(⟨true,2,2⟩,20000130)]⟩
def f70B:Nat->Option z00:=z17 [(1000000,f70l1)]
abbrev f70j{ρ:Type}(N n:Nat)(σ:St)(l:z00)(K:KT ρ):Option ρ:=z0p f70G tab f70B N (z2o 99 (z1q Tryz.f70) n) .n σ (z14 (some l) K)
def f70t0 N a (K:KT ρ):f70j N 1 (f70s0 a) f70lE K =
 z0t.Z0 N a (λb c d=>K .ret (f70s1 b c d)):=by kernel_rfl
def f70ok(h:z0t.Spec):z0a Tryz.prog 70 e70 :=
 okC Tryz.func70 z2q f70GOk (λN X K=>f70t0 N X.1 K) (by kernel_rfl) λX hb hp=>by
  obtain⟨a,_⟩:=X
  obtain⟨N,h⟩:=h a hb.1 hp
  exact⟨N,Eq.trans (by kernel_rfl) (h N (Nat.le_refl N))⟩
def e70ok:z0a Tryz.prog 70 e70:=f70ok z0t.ok
end Go.Fw
namespace Go.Fw
variable {ρ : Type}
open Go.Proofs
def ztb:Rf:=none
def ztc:List PT:=[⟨.sl 3 (.int .i64),false,true⟩,⟨.int .i64,false,false⟩,⟨.sl 22 (.sl 3 (.int .i64)),false,true⟩]
def f119rs:List PT:=[⟨.sl 22 (.sl 3 (.int .i64)),false,false⟩]
def e119S(m:Nat):z7c:=⟨ztb,ztc,f119rs,(some (zae (λX=>z0y.mu X.2.1 X.2.2.1 X.2.2.2.1) (λX=>z0y.P X.2.1 X.2.2.1 X.2.2.2.1) m)),λX=>((),((z0y.g X.2.1 X.2.2.1 X.2.2.2.1),()))⟩
def e119:z7c:=⟨ztb,ztc,f119rs,(some λX=>z0y.P X.2.1 X.2.2.1 X.2.2.2.1),λX=>((),((z0y.g X.2.1 X.2.2.1 X.2.2.2.1),()))⟩
def f119G(m:Nat):Gm:=addM (z3m (z3m z1n 46 e46) 72 e72) 119 (e119S m)
def f119GOk(m:Nat)(hself:z3f Tryz.prog 119 (e119S m)):GOk Tryz.prog (f119G m):=(((GOk.nil).add e46ok (by kernel_rfl)).add e72ok (by kernel_rfl)).addM hself (by kernel_rfl)
def f119lE:z00:=⟨[],[],[],[],[]⟩
def f119s0(a:LI)(b:Int)(c:LL):St:=z40 ztb ztc ((),(a,(b,(c,()))))
def zo7(a:LI)(b:LL)(c:Int):St:=z16 [(0,xo 1000000),(1,xi c),(2,xo 1000128)] [] [(1000000,(⟨3,.int .i64,a,true,false⟩:Row)),(1000128,(⟨22,.sl 3 tI,b,true,false⟩:Row))]
def f119l1:z00:=⟨[0,1,2],[],[],[],[(⟨false,0,0⟩,1000000),(⟨false,2,0⟩,1000128)]⟩
def zo6(a:LI)(b:LL)(c d:Int):St:=z16 [(0,xo 1000000),(1,xi c),(2,xo 1000128),(7,xi d)] [] [(1000000,(⟨3,.int .i64,a,true,false⟩:Row)),(1000128,(⟨22,.sl 3 tI,b,true,false⟩:Row))]
def f119l2:z00:=⟨[0,1,2,7],[],[],[],[(⟨false,0,0⟩,1000000),(⟨false,2,0⟩,1000128)]⟩
def zkl(a:LL):St:=z16 [(2,xo 1000128)] [] [(1000128,(⟨22,.sl 3 tI,a,true,false⟩:Row))]
def ztd:z00:=⟨[2],[],[],[],[(⟨false,2,0⟩,1000128)]⟩
def zta(a:LL):St:=z16 [(6,xo 1000384)] [] [(1000384,(⟨22,.sl 3 tI,a,true,false⟩:Row))]
def f119l4:z00:=⟨[6],[],[],[],[(⟨false,6,0⟩,1000384)]⟩
def f119B:Nat->Option z00:=z17 [(0,ztd),(1000000,f119l4)]
abbrev zte{ρ:Type}(N m n:Nat)(σ:St)(l:z00)(K:KT ρ):Option ρ:=z0p (f119G m) tab f119B N (z2o 99 (z1q Tryz.f119) n) .n σ (z14 (some l) K)
def f119t1 N m a b c (K:KT ρ):zte N m 2 (f119s0 a b c) f119l1 K =
 z0y.Z1 N m a b c (λa c b=>K .nrm (zo7 a c b)):=by kernel_rfl
def f119t3 N m a b c (K:KT ρ):zte N m 5 (zo7 a b c) f119l1 K =
 z0y.Z3 N m a b c (λa b c=>K .nrm (zo7 a b c)) (λd=>K .ret (zta d)):=by kernel_rfl
def f119t6 N m a b c (K:KT ρ):zte N m 19 (zo7 a b c) f119l2 K =
 z0y.Z6 N m a b c (λa b c d=>K .nrm (zo6 a b c d)):=by kernel_rfl
def f119t9 N m b a c d (K:KT ρ):zte N m 75 (zo6 b a c d) f119l2 K =
 z0y.Z9 N m b a c d (λb a c d=>K .nrm (zo6 b a c d)) (λa=>K (.exit 0) (zkl a)):=by kernel_rfl
def f119t8L N m (K:KT ρ):=lp4 K (z0y.Z8L N m (λa=>K (.exit 0) (zkl a))) (λb a c d k=>z0y.Z9 N m b a c d k (λa=>K (.exit 0) (zkl a))) (λF b a c d=>f119t9 N m b a c d _) (by kernel_rfl)
def f119t8 N m a b c d (K:KT ρ):=vL (zo6 a b c d) (f119t8L N m (jK ztd K) N a b c d) (by kernel_rfl)
def f119t7 N m b a c d (K:KT ρ):=vB 0 ztd K (z0y.Z7 N m b a c d (λa=>K .nrm (zkl a))) (f119t8 N m b a c d _) (by kernel_rfl)
def f119t5 N m a b c (K:KT ρ):=vQ (λk=>z0y.Z6 N m a b c k) (f119t6 N m a b c _) (fx4 λa b c d=>f119t7 N m a b c d K)
def f119t10 N m a (K:KT ρ):zte N m 15 (zkl a) f119lE K =
 z0y.Z10 N m a (λb=>K .ret (zta b)):=by kernel_rfl
def f119t4 N m b a c (K:KT ρ):=vQ (λk=>z0y.Z5 N m b a c k) (f119t5 N m b a c _) (funext λa=>f119t10 N m a K)
def f119t2 N m a b c (K:KT ρ):=vQ (λk=>z0y.Z3 N m a b c k (λd=>K .ret (zta d))) (f119t3 N m a b c _) (fx3 λa b c=>f119t4 N m a b c K)
def f119t0 N m a b c (K:KT ρ):=vQ (λk=>z0y.Z1 N m a b c k) (f119t1 N m a b c _) (fx3 λa c b=>f119t2 N m a c b K)
def f119ok(h:z0y.Spec):z3f Tryz.prog 119 e119 :=
 z3f.rec (μ:=λX=>z0y.mu X.2.1 X.2.2.1 X.2.2.2.1) (λm hself=>okM Tryz.func119 z2q (f119GOk m hself) (λN X K=>f119t0 N m X.2.1 X.2.2.1 X.2.2.2.1 K) (by kernel_rfl) λX hb1 hb2 hp=>by
  obtain⟨u,a,b,c,_⟩:=X
  obtain⟨N,h⟩:=h m a b c hb2.1 hb2.2.2.1 hp
  exact⟨N,Eq.trans (by kernel_rfl) (h N (Nat.le_refl N))⟩)
def e119ok:z3f Tryz.prog 119 e119:=f119ok z0y.ok
end Go.Fw
namespace Go.Fw
variable {ρ : Type}
open Go.Proofs
def zt8:Sig:=⟨[⟨.pair (.int .i64) (.pair (.int .i64) (.sl 3 (.int .i64))),true,false⟩,⟨.sl 3 (.int .i64),false,false⟩],[⟨.pair (.int .i64) (.pair (.int .i64) (.sl 3 (.int .i64))),true,false⟩]⟩
def e120:z24:=⟨zt8,(some λX=>z0g.P X.1 X.2.1),λX=>((),((z0g.g X.1 X.2.1),()))⟩
def f120G:Gm:=z3m (z3m z1n 70 e70) 105 e105
def f120GOk:GOk Tryz.prog f120G:=((GOk.nil).add e70ok (by kernel_rfl)).add zgb (by kernel_rfl)
def f120lE:z00:=⟨[],[],[],[],[]⟩
def f120s0(a:MT)(b:LI):St:=z1k zt8.ps (a,(b,()))
def f120s1(a:LI)(b d:Int)(e:LI)(f g:Int):St:=z16 [(1,.c (.sn 3 tI a none)),(2,xb 2),(4,xb 4)] [(2,(27,[yi b,yi d,.sn 3 tI e none])),(4,(27,[yi f,yi g,.nil]))] []
def f120l1:z00:=⟨[1,2,4],[2,4],[],[],[]⟩
def f120s2(a b:LI)(d e:Int)(f:LI)(g h i j:Int):St:=z16 [(1,.c (.sn 3 tI b none)),(2,xb 2),(4,xb 4),(5,xb 5)] [(2,(27,[yi d,yi e,.sn 3 tI f none])),(4,(27,[yi g,yi h,.nil])),(5,(27,[yi i,yi j,.own 20000322]))] [(20000322,(⟨3,.int .i64,a,true,false⟩:Row))]
def f120l2:z00:=⟨[1,2,4,5],[2,4,5],[],[],[(⟨true,5,2⟩,20000322)]⟩
def z81(a b:LI)(d e f:Int)(g:LI)(h i j l:Int):St:=z16 [(1,.c (.sn 3 tI b none)),(2,xb 2),(4,xb 4),(5,xb 5),(6,xi d)] [(2,(27,[yi e,yi f,.sn 3 tI g none])),(4,(27,[yi h,yi i,.nil])),(5,(27,[yi j,yi l,.own 20000322]))] [(20000322,(⟨3,.int .i64,a,true,false⟩:Row))]
def zcq:z00:=⟨[1,2,4,5,6],[2,4,5],[],[],[(⟨true,5,2⟩,20000322)]⟩
def zo5(a b:LI)(d e f g:Int)(h:LI)(i j l m:Int):St:=z16 [(1,.c (.sn 3 tI b none)),(2,xb 2),(4,xb 4),(5,xb 5),(6,xi d),(7,xi e)] [(2,(27,[yi f,yi g,.sn 3 tI h none])),(4,(27,[yi i,yi j,.nil])),(5,(27,[yi l,yi m,.own 20000322]))] [(20000322,(⟨3,.int .i64,a,true,false⟩:Row))]
def f120l4:z00:=⟨[1,2,4,5,6,7],[2,4,5],[],[],[(⟨true,5,2⟩,20000322)]⟩
def zo4(a b:LI)(d e f g h:Int)(i:LI)(j l m o:Int):St:=z16 [(1,.c (.sn 3 tI b none)),(2,xb 2),(4,xb 4),(5,xb 5),(6,xi d),(7,xi e),(8,xi f)] [(2,(27,[yi g,yi h,.sn 3 tI i none])),(4,(27,[yi j,yi l,.nil])),(5,(27,[yi m,yi o,.own 20000322]))] [(20000322,(⟨3,.int .i64,a,true,false⟩:Row))]
def f120l5:z00:=⟨[1,2,4,5,6,7,8],[2,4,5],[],[],[(⟨true,5,2⟩,20000322)]⟩
def zg9(a:LI)(b c d e:Int):St:=z16 [(4,xb 4),(5,xb 5)] [(4,(27,[yi b,yi c,.nil])),(5,(27,[yi d,yi e,.own 20000322]))] [(20000322,(⟨3,.int .i64,a,true,false⟩:Row))]
def zt9:z00:=⟨[4,5],[4,5],[],[],[(⟨true,5,2⟩,20000322)]⟩
def f120s7(a:LI)(b c:Int):St:=z16 [(4,xb 4)] [(4,(27,[yi b,yi c,.own 20000258]))] [(20000258,(⟨3,.int .i64,a,true,false⟩:Row))]
def f120l7:z00:=⟨[4],[4],[],[],[(⟨true,4,2⟩,20000258)]⟩
def f120B:Nat->Option z00:=z17 [(2,zcq),(1,zcq),(0,zt9),(1000000,f120l7)]
abbrev zf7{ρ:Type}(N n:Nat)(σ:St)(l:z00)(K:KT ρ):Option ρ:=z0p f120G tab f120B N (z2o 99 (z1q Tryz.f120) n) .n σ (z14 (some l) K)
def f120t1 N b a (K:KT ρ):zf7 N 2 (f120s0 b a) f120l1 K =
 z0g.Z1 N b a (λa c d e f g=>K .nrm (f120s1 a c d e f g)):=by kernel_rfl
def f120t3 N a b c d e f (K:KT ρ):zf7 N 5 (f120s1 a b c d e f) f120l2 K =
 z0g.Z3 N a b c d e f (λg a b c d e f h i=>K .nrm (f120s2 g a b c d e f h i)):=by kernel_rfl
def f120t6 N a b c d e f g h i (K:KT ρ):zf7 N 19 (f120s2 a b c d e f g h i) zcq K =
 z0g.Z6 N a b c d e f g h i (λa b j c d e f g h i=>K .nrm (z81 a b j c d e f g h i)):=by kernel_rfl
def f120t10 N a f g h i j b c d e (K:KT ρ):zf7 N 139 (z81 a f g h i j b c d e) zcq K =
 z0g.Z10 N a f g h i j b c d e (λa f g h i j b c d e=>K .nrm (z81 a f g h i j b c d e)) (λa b c d e=>K (.exit 0) (zg9 a b c d e)):=by kernel_rfl
def f120t14 N a b c d e f g h i j (K:KT ρ):zf7 N 1099 (z81 a b c d e f g h i j) f120l4 K =
 z0g.Z14 N a b c d e f g h i j (λa b c l d e f g h i j=>K .nrm (zo5 a b c l d e f g h i j)):=by kernel_rfl
def f120t16 N a b c d e f g h i j l (K:KT ρ):zf7 N 2635 (zo5 a b c d e f g h i j l) f120l4 K =
 z0g.Z16 N a b c d e f g h i j l (λa b c d e f g h i j l=>K .nrm (zo5 a b c d e f g h i j l)):=by kernel_rfl
def f120t18 N a b c d e f g h i j l (K:KT ρ):zf7 N 5707 (zo5 a b c d e f g h i j l) f120l5 K =
 z0g.Z18 N a b c d e f g h i j l (λa b c d m e f g h i j l=>K .nrm (zo4 a b c d m e f g h i j l)):=by kernel_rfl
def f120t21 N a b c l m d e f g h i j (K:KT ρ):zf7 N 20043 (zo4 a b c l m d e f g h i j) f120l5 K =
 z0g.Z21 N a b c l m d e f g h i j (λa b c l m d e f g h i j=>K .nrm (zo4 a b c l m d e f g h i j)) (λa b c d e f g h i j=>K (.exit 2) (z81 a b c d e f g h i j)):=by kernel_rfl
def f120t20L N (K:KT ρ):=lp12 K (z0g.Z20L N (λa b c d e f g h i j=>K (.exit 2) (z81 a b c d e f g h i j))) (λa b c l m d e f g h i j k=>z0g.Z21 N a b c l m d e f g h i j k (λa b c d e f g h i j=>K (.exit 2) (z81 a b c d e f g h i j))) (λF a b c l m d e f g h i j=>f120t21 N a b c l m d e f g h i j _) (by kernel_rfl)
def f120t20 N a b c d e f g h i j l m (K:KT ρ):=vL (zo4 a b c d e f g h i j l m) (f120t20L N (jK zcq K) N a b c d e f g h i j l m) (by kernel_rfl)
def f120t19 N a b c l m d e f g h i j (K:KT ρ):=vB 2 zcq K (z0g.Z19 N a b c l m d e f g h i j (λa b c d e f g h i j=>K .nrm (z81 a b c d e f g h i j))) (f120t20 N a b c l m d e f g h i j _) (by kernel_rfl)
def f120t17 N a b c d e f g h i j l (K:KT ρ):=vQ (λk=>z0g.Z18 N a b c d e f g h i j l k) (f120t18 N a b c d e f g h i j l _) (fx12 λa b c d m e f g h i j l=>f120t19 N a b c d m e f g h i j l K)
def f120t15 N a b c d e f g h i j l (K:KT ρ):=vQ (λk=>z0g.Z16 N a b c d e f g h i j l k) (f120t16 N a b c d e f g h i j l _) (zlx λa b c d e f g h i j l=>f120t17 N a b c d e f g h i j l K)
def f120t13 N a b c d e f g h i j (K:KT ρ):=vQ (λk=>z0g.Z14 N a b c d e f g h i j k) (f120t14 N a b c d e f g h i j _) (zlx λa b c l d e f g h i j=>f120t15 N a b c l d e f g h i j K)
def f120t12 N a b c d e f g h i j (K:KT ρ):=vB 1 zcq K (z0g.Z12 N a b c d e f g h i j (λa b c d e f g h i j=>K .nrm (z81 a b c d e f g h i j))) (f120t13 N a b c d e f g h i j _) (by kernel_rfl)
def f120t22 N a b c d e f g h i j (K:KT ρ):zf7 N 459 (z81 a b c d e f g h i j) zcq K =
 z0g.Z22 N a b c d e f g h i j (λa b c d e f g h i j=>K .nrm (z81 a b c d e f g h i j)):=by kernel_rfl
def f120t11 N a b c d e f g h i j (K:KT ρ):=vQ (λk=>z0g.Z12 N a b c d e f g h i j k) (f120t12 N a b c d e f g h i j _) (zf3 λa b c d e f g h i j=>f120t22 N a b c d e f g h i j K)
def f120t9 N a f g h i j b c d e (K:KT ρ):=vQ (λk=>z0g.Z10 N a f g h i j b c d e k (λa b c d e=>K (.exit 0) (zg9 a b c d e))) (f120t10 N a f g h i j b c d e _) (zf3 λa f g h i j b c d e=>f120t11 N a f g h i j b c d e K)
def f120t8L N (K:KT ρ):=lp10 K (z0g.Z8L N (λa b c d e=>K (.exit 0) (zg9 a b c d e))) (λa f g h i j b c d e k=>z0g.Z9 N a f g h i j b c d e k (λa b c d e=>K (.exit 0) (zg9 a b c d e))) (λF a f g h i j b c d e=>f120t9 N a f g h i j b c d e _) (by kernel_rfl)
def f120t8 N a b c d e f g h i j (K:KT ρ):=vL (z81 a b c d e f g h i j) (f120t8L N (jK zt9 K) N a b c d e f g h i j) (by kernel_rfl)
def f120t7 N a f g h i j b c d e (K:KT ρ):=vB 0 zt9 K (z0g.Z7 N a f g h i j b c d e (λa b c d e=>K .nrm (zg9 a b c d e))) (f120t8 N a f g h i j b c d e _) (by kernel_rfl)
def f120t5 N a b c d e f g h i (K:KT ρ):=vQ (λk=>z0g.Z6 N a b c d e f g h i k) (f120t6 N a b c d e f g h i _) (zf3 λa b j c d e f g h i=>f120t7 N a b j c d e f g h i K)
def f120t23 N c a b d e (K:KT ρ):zf7 N 15 (zg9 c a b d e) f120lE K =
 z0g.Z23 N c a b d e (λf a b=>K .ret (f120s7 f a b)):=by kernel_rfl
def f120t4 N a f g h i b c d e (K:KT ρ):=vQ (λk=>z0g.Z5 N a f g h i b c d e k) (f120t5 N a f g h i b c d e _) (fx5 λa b c d e=>f120t23 N a b c d e K)
def f120t2 N a b c d e f (K:KT ρ):=vQ (λk=>z0g.Z3 N a b c d e f k) (f120t3 N a b c d e f _) (fx9 λg a b c d e f h i=>f120t4 N g a b c d e f h i K)
def f120t0 N b a (K:KT ρ):=vQ (λk=>z0g.Z1 N b a k) (f120t1 N b a _) (fx6 λa c d e f g=>f120t2 N a c d e f g K)
def f120ok(h:z0g.Spec):z0a Tryz.prog 120 e120 :=
 okC Tryz.func120 z2q f120GOk (λN X K=>f120t0 N X.1 X.2.1 K) (by kernel_rfl) λX hb hp=>by
  obtain⟨a,b,_⟩:=X
  obtain⟨N,h⟩:=h a b hb.1 hb.2.1 hp
  exact⟨N,Eq.trans (by kernel_rfl) (h N (Nat.le_refl N))⟩
def e120ok:z0a Tryz.prog 120 e120:=f120ok z0g.ok
end Go.Fw
namespace Go.Fw
variable {ρ : Type}
open Go.Proofs
def f89sig:Sig:=⟨[⟨.sl 3 (.int .i64),false,false⟩,⟨.sl 3 (.int .i64),false,false⟩],[⟨.bool,false,false⟩]⟩
def e89:z24:=⟨f89sig,none,λX=>((),((z1w.g X.1 X.2.1),()))⟩
def f89G:Gm:=z1n
def f89GOk:GOk Tryz.prog f89G:=GOk.nil
def f89lE:z00:=⟨[],[],[],[],[]⟩
def f89s0(a b:LI):St:=z1k f89sig.ps (a,(b,()))
def zlz(a b:LI):St:=z16 [(0,.c (.sn 3 tI a none)),(1,.c (.sn 3 tI b none))] [] []
def f89l1:z00:=⟨[0,1],[],[],[],[]⟩
def f89s2(a b:LI)(d:Int):St:=z16 [(0,.c (.sn 3 tI a none)),(1,.c (.sn 3 tI b none)),(5,xi d)] [] []
def f89l2:z00:=⟨[0,1,5],[],[],[],[]⟩
def zpo(a:Bool):St:=z16 [(4,xB a)] [] []
def f89l3:z00:=⟨[4],[],[],[],[]⟩
def f89B:Nat->Option z00:=z17 [(0,f89l1),(1000000,f89l3)]
abbrev f89j{ρ:Type}(N n:Nat)(σ:St)(l:z00)(K:KT ρ):Option ρ:=z0p f89G tab f89B N (z2o 99 (z1q Tryz.f89) n) .n σ (z14 (some l) K)
def f89t1 N a b (K:KT ρ):f89j N 2 (f89s0 a b) f89l1 K =
 z1w.Z1 N a b (λa b=>K .nrm (zlz a b)):=by kernel_rfl
def f89t4 N a b (K:KT ρ):f89j N 9 (zlz a b) f89l2 K =
 z1w.Z4 N a b (λa b c=>K .nrm (f89s2 a b c)):=by kernel_rfl
def f89t7 N a b c (K:KT ρ):f89j N 37 (f89s2 a b c) f89l2 K =
 z1w.Z7 N a b c (λa b c=>K .nrm (f89s2 a b c)) (λa b=>K (.exit 0) (zlz a b)) (λd=>K .ret (zpo d)):=by kernel_rfl
def f89t6L N (K:KT ρ):=lp3 K (z1w.Z6L N (λa b=>K (.exit 0) (zlz a b)) (λc=>K .ret (zpo c))) (λa b d k=>z1w.Z7 N a b d k (λa b=>K (.exit 0) (zlz a b)) (λc=>K .ret (zpo c))) (λF a b d=>f89t7 N a b d _) (by kernel_rfl)
def f89t6 N a b c (K:KT ρ):=vL (f89s2 a b c) (f89t6L N (jK f89l1 K) N a b c) (by kernel_rfl)
def f89t5 N a b c (K:KT ρ):=vB 0 f89l1 K (z1w.Z5 N a b c (λa b=>K .nrm (zlz a b)) (λd=>K .ret (zpo d))) (f89t6 N a b c _) (by kernel_rfl)
def f89t3 N a b (K:KT ρ):=vQ (λk=>z1w.Z4 N a b k) (f89t4 N a b _) (fx3 λa b c=>f89t5 N a b c K)
def f89t8 N a b (K:KT ρ):f89j N 7 (zlz a b) f89lE K =
 z1w.Z8 N a b (λc=>K .ret (zpo c)):=by kernel_rfl
def f89t2 N a b (K:KT ρ):=vQ (λk=>z1w.Z3 N a b k (λc=>K .ret (zpo c))) (f89t3 N a b _) (fx2 λa b=>f89t8 N a b K)
def f89t0 N a b (K:KT ρ):=vQ (λk=>z1w.Z1 N a b k) (f89t1 N a b _) (fx2 λa b=>f89t2 N a b K)
def f89ok(h:z1w.Spec):z0a Tryz.prog 89 e89 :=
 okC Tryz.func89 z2q f89GOk (λN X K=>f89t0 N X.1 X.2.1 K) (by kernel_rfl) λX hb hp=>by
  obtain⟨a,b,_⟩:=X
  obtain⟨N,h⟩:=h a b hb.1 hb.2.1
  exact⟨N,Eq.trans (by kernel_rfl) (h N (Nat.le_refl N))⟩
def e89ok:z0a Tryz.prog 89 e89:=f89ok z1w.ok
end Go.Fw
namespace Go.Fw
variable {ρ : Type}
open Go.Proofs
def f86sig:Sig:=⟨[⟨.pair (.int .i64) (.pair (.int .i64) (.sl 3 (.int .i64))),true,false⟩],[⟨.pair (.int .i64) (.pair (.int .i64) (.sl 3 (.int .i64))),true,false⟩]⟩
def e86:z24:=⟨f86sig,(some λX=>z0f.P X.1),λX=>((),((z0f.g X.1),()))⟩
def f86G:Gm:=z3m (addM (z3m (z3m z1n 70 e70) 89 e89) 119 e119) 120 e120
def f86GOk:GOk Tryz.prog f86G:=((((GOk.nil).add e70ok (by kernel_rfl)).add e89ok (by kernel_rfl)).addM e119ok (by kernel_rfl)).add e120ok (by kernel_rfl)
def f86lE:z00:=⟨[],[],[],[],[]⟩
def f86s0(a:MT):St:=z1k f86sig.ps (a,())
def f86s1(a b:Int)(c:LI)(d e:Int):St:=z16 [(1,xb 1),(2,xb 2)] [(1,(27,[yi a,yi b,.sn 3 tI c none])),(2,(27,[yi d,yi e,.nil]))] []
def f86l1:z00:=⟨[1,2],[1,2],[],[],[]⟩
def f86s2(a:LI)(b c:Int)(d:LI)(e f g h:Int):St:=z16 [(1,xb 1),(2,xb 2),(3,xb 3)] [(1,(27,[yi b,yi c,.sn 3 tI d none])),(2,(27,[yi e,yi f,.nil])),(3,(27,[yi g,yi h,.own 20000194]))] [(20000194,(⟨3,.int .i64,a,true,false⟩:Row))]
def f86l2:z00:=⟨[1,2,3],[1,2,3],[],[],[(⟨true,3,2⟩,20000194)]⟩
def f86s3(a:LL)(b:LI)(c d:Int)(e:LI)(f g h i:Int):St:=z16 [(1,xb 1),(2,xb 2),(3,xb 3),(4,xo 1000256)] [(1,(27,[yi c,yi d,.sn 3 tI e none])),(2,(27,[yi f,yi g,.nil])),(3,(27,[yi h,yi i,.own 20000194]))] [(1000256,(⟨22,.sl 3 tI,a,true,false⟩:Row)),(20000194,(⟨3,.int .i64,b,true,false⟩:Row))]
def f86l3:z00:=⟨[1,2,3,4],[1,2,3],[],[],[(⟨false,4,0⟩,1000256),(⟨true,3,2⟩,20000194)]⟩
def f86s4(a:LL)(b:LI)(c d e:Int)(f:LI)(g h i j:Int):St:=z16 [(1,xb 1),(2,xb 2),(3,xb 3),(4,xo 1000256),(5,xi c)] [(1,(27,[yi d,yi e,.sn 3 tI f none])),(2,(27,[yi g,yi h,.nil])),(3,(27,[yi i,yi j,.own 20000194]))] [(1000256,(⟨22,.sl 3 tI,a,true,false⟩:Row)),(20000194,(⟨3,.int .i64,b,true,false⟩:Row))]
def f86l4:z00:=⟨[1,2,3,4,5],[1,2,3],[],[],[(⟨false,4,0⟩,1000256),(⟨true,3,2⟩,20000194)]⟩
def zsi(a:LI)(b c d e:Int):St:=z16 [(2,xb 2),(3,xb 3)] [(2,(27,[yi b,yi c,.nil])),(3,(27,[yi d,yi e,.own 20000194]))] [(20000194,(⟨3,.int .i64,a,true,false⟩:Row))]
def f86l5:z00:=⟨[2,3],[2,3],[],[],[(⟨true,3,2⟩,20000194)]⟩
def f86s6(a:LI)(b c:Int):St:=z16 [(2,xb 2)] [(2,(27,[yi b,yi c,.own 20000130]))] [(20000130,(⟨3,.int .i64,a,true,false⟩:Row))]
def f86l6:z00:=⟨[2],[2],[],[],[(⟨true,2,2⟩,20000130)]⟩
def f86B:Nat->Option z00:=z17 [(0,f86l5),(1000000,f86l6)]
abbrev f86j{ρ:Type}(N n:Nat)(σ:St)(l:z00)(K:KT ρ):Option ρ:=z0p f86G tab f86B N (z2o 99 (z1q Tryz.f86) n) .n σ (z14 (some l) K)
def f86t1 N a (K:KT ρ):f86j N 2 (f86s0 a) f86l1 K =
 z0f.Z1 N a (λb c d e f=>K .nrm (f86s1 b c d e f)):=by kernel_rfl
def f86t3 N a b c d e (K:KT ρ):f86j N 5 (f86s1 a b c d e) f86l2 K =
 z0f.Z3 N a b c d e (λf a b c d e g h=>K .nrm (f86s2 f a b c d e g h)):=by kernel_rfl
def f86t5 N a b c d e f g h (K:KT ρ):f86j N 11 (f86s2 a b c d e f g h) f86l3 K =
 z0f.Z5 N a b c d e f g h (λi a b c d e f g h=>K .nrm (f86s3 i a b c d e f g h)):=by kernel_rfl
def f86t8 N a b c d e f g h i (K:KT ρ):f86j N 39 (f86s3 a b c d e f g h i) f86l4 K =
 z0f.Z8 N a b c d e f g h i (λa b j c d e f g h i=>K .nrm (f86s4 a b j c d e f g h i)):=by kernel_rfl
def f86t11 N f a g h i j b c d e (K:KT ρ):f86j N 151 (f86s4 f a g h i j b c d e) f86l4 K =
 z0f.Z11 N f a g h i j b c d e (λf a g h i j b c d e=>K .nrm (f86s4 f a g h i j b c d e)) (λa b c d e=>K (.exit 0) (zsi a b c d e)):=by kernel_rfl
def f86t10L N (K:KT ρ):=lp10 K (z0f.Z10L N (λa b c d e=>K (.exit 0) (zsi a b c d e))) (λf a g h i j b c d e k=>z0f.Z11 N f a g h i j b c d e k (λa b c d e=>K (.exit 0) (zsi a b c d e))) (λF f a g h i j b c d e=>f86t11 N f a g h i j b c d e _) (by kernel_rfl)
def f86t10 N a b c d e f g h i j (K:KT ρ):=vL (f86s4 a b c d e f g h i j) (f86t10L N (jK f86l5 K) N a b c d e f g h i j) (by kernel_rfl)
def f86t9 N f a g h i j b c d e (K:KT ρ):=vB 0 f86l5 K (z0f.Z9 N f a g h i j b c d e (λa b c d e=>K .nrm (zsi a b c d e))) (f86t10 N f a g h i j b c d e _) (by kernel_rfl)
def f86t7 N a b c d e f g h i (K:KT ρ):=vQ (λk=>z0f.Z8 N a b c d e f g h i k) (f86t8 N a b c d e f g h i _) (zf3 λa b j c d e f g h i=>f86t9 N a b j c d e f g h i K)
def f86t12 N c a b d e (K:KT ρ):f86j N 31 (zsi c a b d e) f86lE K =
 z0f.Z12 N c a b d e (λf a b=>K .ret (f86s6 f a b)):=by kernel_rfl
def f86t6 N f a g h i b c d e (K:KT ρ):=vQ (λk=>z0f.Z7 N f a g h i b c d e k) (f86t7 N f a g h i b c d e _) (fx5 λa b c d e=>f86t12 N a b c d e K)
def f86t4 N a b c d e f g h (K:KT ρ):=vQ (λk=>z0f.Z5 N a b c d e f g h k) (f86t5 N a b c d e f g h _) (fx9 λi a b c d e f g h=>f86t6 N i a b c d e f g h K)
def f86t2 N a b c d e (K:KT ρ):=vQ (λk=>z0f.Z3 N a b c d e k) (f86t3 N a b c d e _) (fx8 λf a b c d e g h=>f86t4 N f a b c d e g h K)
def f86t0 N a (K:KT ρ):=vQ (λk=>z0f.Z1 N a k) (f86t1 N a _) (fx5 λb c d e f=>f86t2 N b c d e f K)
def f86ok(h:z0f.Spec):z0a Tryz.prog 86 e86 :=
 okC Tryz.func86 z2q f86GOk (λN X K=>f86t0 N X.1 K) (by kernel_rfl) λX hb hp=>by
  obtain⟨a,_⟩:=X
  obtain⟨N,h⟩:=h a hb.1 hp
  exact⟨N,Eq.trans (by kernel_rfl) (h N (Nat.le_refl N))⟩
def e86ok:z0a Tryz.prog 86 e86:=f86ok z0f.ok
end Go.Fw
namespace Go.Fw
variable {ρ : Type}
open Go.Proofs
def f87sig:Sig:=⟨[⟨.pair (.int .i64) (.pair (.int .i64) (.sl 3 (.int .i64))),true,false⟩,⟨.int .i64,false,false⟩],[⟨.pair (.int .i64) (.pair (.int .i64) (.sl 3 (.int .i64))),true,false⟩]⟩
def e87:z24:=⟨f87sig,(some λX=>z0d.P X.1 X.2.1),λX=>((),((z0d.g X.1 X.2.1),()))⟩
def f87G:Gm:=z3m (z3m z1n 70 e70) 105 e105
def f87GOk:GOk Tryz.prog f87G:=((GOk.nil).add e70ok (by kernel_rfl)).add zgb (by kernel_rfl)
def f87lE:z00:=⟨[],[],[],[],[]⟩
def f87s0(a:MT)(b:Int):St:=z1k f87sig.ps (a,(b,()))
def f87s1(a b c:Int)(d:LI)(e f:Int):St:=z16 [(1,xi a),(2,xb 2),(4,xb 4)] [(2,(27,[yi b,yi c,.sn 3 tI d none])),(4,(27,[yi e,yi f,.nil]))] []
def f87l1:z00:=⟨[1,2,4],[2,4],[],[],[]⟩
def f87s2(a:LI)(b c d:Int)(e:LI)(f g h i:Int):St:=z16 [(1,xi b),(2,xb 2),(4,xb 4),(5,xb 5)] [(2,(27,[yi c,yi d,.sn 3 tI e none])),(4,(27,[yi f,yi g,.nil])),(5,(27,[yi h,yi i,.own 20000322]))] [(20000322,(⟨3,.int .i64,a,true,false⟩:Row))]
def f87l2:z00:=⟨[1,2,4,5],[2,4,5],[],[],[(⟨true,5,2⟩,20000322)]⟩
def zby(a:LI)(b c d e:Int)(f:LI)(g h i j:Int):St:=z16 [(1,xi b),(2,xb 2),(4,xb 4),(5,xb 5),(6,xi c)] [(2,(27,[yi d,yi e,.sn 3 tI f none])),(4,(27,[yi g,yi h,.nil])),(5,(27,[yi i,yi j,.own 20000322]))] [(20000322,(⟨3,.int .i64,a,true,false⟩:Row))]
def zk1:z00:=⟨[1,2,4,5,6],[2,4,5],[],[],[(⟨true,5,2⟩,20000322)]⟩
def zf5(a:LI)(b c d e f:Int)(g:LI)(h i j l:Int):St:=z16 [(1,xi b),(2,xb 2),(4,xb 4),(5,xb 5),(6,xi c),(7,xi d)] [(2,(27,[yi e,yi f,.sn 3 tI g none])),(4,(27,[yi h,yi i,.nil])),(5,(27,[yi j,yi l,.own 20000322]))] [(20000322,(⟨3,.int .i64,a,true,false⟩:Row))]
def zk0:z00:=⟨[1,2,4,5,6,7],[2,4,5],[],[],[(⟨true,5,2⟩,20000322)]⟩
def f87s5(a:LI)(b c d e f g:Int)(h:LI)(i j l m:Int):St:=z16 [(1,xi b),(2,xb 2),(4,xb 4),(5,xb 5),(6,xi c),(7,xi d),(8,xi e)] [(2,(27,[yi f,yi g,.sn 3 tI h none])),(4,(27,[yi i,yi j,.nil])),(5,(27,[yi l,yi m,.own 20000322]))] [(20000322,(⟨3,.int .i64,a,true,false⟩:Row))]
def f87l5:z00:=⟨[1,2,4,5,6,7,8],[2,4,5],[],[],[(⟨true,5,2⟩,20000322)]⟩
def f87s6(a:LI)(b c d e f g h:Int)(i:LI)(j l m o:Int):St:=z16 [(1,xi b),(2,xb 2),(4,xb 4),(5,xb 5),(6,xi c),(7,xi d),(8,xi e),(9,xi f)] [(2,(27,[yi g,yi h,.sn 3 tI i none])),(4,(27,[yi j,yi l,.nil])),(5,(27,[yi m,yi o,.own 20000322]))] [(20000322,(⟨3,.int .i64,a,true,false⟩:Row))]
def f87l6:z00:=⟨[1,2,4,5,6,7,8,9],[2,4,5],[],[],[(⟨true,5,2⟩,20000322)]⟩
def f87s7(a:LI)(b c d e f:Int)(g:Bool)(h i:Int)(j:LI)(l m o p:Int):St:=z16 [(1,xi b),(2,xb 2),(4,xb 4),(5,xb 5),(6,xi c),(7,xi d),(8,xi e),(9,xi f),(32,xB g)] [(2,(27,[yi h,yi i,.sn 3 tI j none])),(4,(27,[yi l,yi m,.nil])),(5,(27,[yi o,yi p,.own 20000322]))] [(20000322,(⟨3,.int .i64,a,true,false⟩:Row))]
def f87l7:z00:=⟨[1,2,4,5,6,7,8,9,32],[2,4,5],[],[],[(⟨true,5,2⟩,20000322)]⟩
def zpp(a:LI)(b c d e:Int):St:=z16 [(4,xb 4),(5,xb 5)] [(4,(27,[yi b,yi c,.nil])),(5,(27,[yi d,yi e,.own 20000322]))] [(20000322,(⟨3,.int .i64,a,true,false⟩:Row))]
def f87l8:z00:=⟨[4,5],[4,5],[],[],[(⟨true,5,2⟩,20000322)]⟩
def f87s9(a:LI)(b c:Int):St:=z16 [(4,xb 4)] [(4,(27,[yi b,yi c,.own 20000258]))] [(20000258,(⟨3,.int .i64,a,true,false⟩:Row))]
def f87l9:z00:=⟨[4],[4],[],[],[(⟨true,4,2⟩,20000258)]⟩
def f87B:Nat->Option z00:=z17 [(4,zk0),(3,zk0),(2,zk1),(1,zk1),(0,f87l8),(1000000,f87l9)]
abbrev zpq{ρ:Type}(N n:Nat)(σ:St)(l:z00)(K:KT ρ):Option ρ:=z0p f87G tab f87B N (z2o 99 (z1q Tryz.f87) n) .n σ (z14 (some l) K)
def f87t1 N b a (K:KT ρ):zpq N 2 (f87s0 b a) f87l1 K =
 z0d.Z1 N b a (λa c d e f g=>K .nrm (f87s1 a c d e f g)):=by kernel_rfl
def f87t3 N a b c d e f (K:KT ρ):zpq N 5 (f87s1 a b c d e f) f87l2 K =
 z0d.Z3 N a b c d e f (λg a b c d e f h i=>K .nrm (f87s2 g a b c d e f h i)):=by kernel_rfl
def f87t6 N a b c d e f g h i (K:KT ρ):zpq N 19 (f87s2 a b c d e f g h i) zk1 K =
 z0d.Z6 N a b c d e f g h i (λa b j c d e f g h i=>K .nrm (zby a b j c d e f g h i)):=by kernel_rfl
def f87t10 N a f g h i j b c d e (K:KT ρ):zpq N 139 (zby a f g h i j b c d e) zk1 K =
 z0d.Z10 N a f g h i j b c d e (λa f g h i j b c d e=>K .nrm (zby a f g h i j b c d e)) (λa b c d e=>K (.exit 0) (zpp a b c d e)):=by kernel_rfl
def f87t14 N a b c d e f g h i j (K:KT ρ):zpq N 1099 (zby a b c d e f g h i j) zk0 K =
 z0d.Z14 N a b c d e f g h i j (λa b c l d e f g h i j=>K .nrm (zf5 a b c l d e f g h i j)):=by kernel_rfl
def f87t18 N a b c l d e f g h i j (K:KT ρ):zpq N 8779 (zf5 a b c l d e f g h i j) zk0 K =
 z0d.Z18 N a b c l d e f g h i j (λa b c l d e f g h i j=>K .nrm (zf5 a b c l d e f g h i j)) (λa b c d e f g h i j=>K (.exit 2) (zby a b c d e f g h i j)):=by kernel_rfl
def f87t22 N a b c d e f g h i j l (K:KT ρ):zpq N 70219 (zf5 a b c d e f g h i j l) f87l5 K =
 z0d.Z22 N a b c d e f g h i j l (λa b c d m e f g h i j l=>K .nrm (f87s5 a b c d m e f g h i j l)):=by kernel_rfl
def f87t24 N a b c d e f g h i j l m (K:KT ρ):zpq N 168523 (f87s5 a b c d e f g h i j l m) f87l6 K =
 z0d.Z24 N a b c d e f g h i j l m (λa b c d e o f g h i j l m=>K .nrm (f87s6 a b c d e o f g h i j l m)):=by kernel_rfl
def f87t27 N a b c d e f g h i j l m o (K:KT ρ):zpq N 627275 (f87s6 a b c d e f g h i j l m o) f87l7 K =
 z0d.Z27 N a b c d e f g h i j l m o (λa b c d e f p g h i j l m o=>K .nrm (f87s7 a b c d e f p g h i j l m o)):=by kernel_rfl
def f87t28 N a b c d m o p e f g h i j l (K:KT ρ):zpq N 889419 (f87s7 a b c d m o p e f g h i j l) zk0 K =
 z0d.Z28 N a b c d m o p e f g h i j l (λa b c d e f g h i j l=>K .nrm (zf5 a b c d e f g h i j l)):=by kernel_rfl
def f87t26 N a b c d e f g h i j l m o (K:KT ρ):=vQ (λk=>z0d.Z27 N a b c d e f g h i j l m o k) (f87t27 N a b c d e f g h i j l m o _) (fx14 λa b c d e f p g h i j l m o=>f87t28 N a b c d e f p g h i j l m o K)
def f87t25 N a b c d m o e f g h i j l (K:KT ρ):=vB 4 zk0 K (z0d.Z25 N a b c d m o e f g h i j l (λa b c d e f g h i j l=>K .nrm (zf5 a b c d e f g h i j l))) (f87t26 N a b c d m o e f g h i j l _) (by kernel_rfl)
def f87t23 N a b c d e f g h i j l m (K:KT ρ):=vQ (λk=>z0d.Z24 N a b c d e f g h i j l m k) (f87t24 N a b c d e f g h i j l m _) (fx13 λa b c d e o f g h i j l m=>f87t25 N a b c d e o f g h i j l m K)
def f87t21 N a b c d e f g h i j l (K:KT ρ):=vQ (λk=>z0d.Z22 N a b c d e f g h i j l k) (f87t22 N a b c d e f g h i j l _) (fx12 λa b c d m e f g h i j l=>f87t23 N a b c d m e f g h i j l K)
def f87t20 N a b c d e f g h i j l (K:KT ρ):=vB 3 zk0 K (z0d.Z20 N a b c d e f g h i j l (λa b c d e f g h i j l=>K .nrm (zf5 a b c d e f g h i j l))) (f87t21 N a b c d e f g h i j l _) (by kernel_rfl)
def f87t29 N a b c d e f g h i j l (K:KT ρ):zpq N 29259 (zf5 a b c d e f g h i j l) zk0 K =
 z0d.Z29 N a b c d e f g h i j l (λa b c d e f g h i j l=>K .nrm (zf5 a b c d e f g h i j l)):=by kernel_rfl
def f87t19 N a b c d e f g h i j l (K:KT ρ):=vQ (λk=>z0d.Z20 N a b c d e f g h i j l k) (f87t20 N a b c d e f g h i j l _) (zlx λa b c d e f g h i j l=>f87t29 N a b c d e f g h i j l K)
def f87t17 N a b c l d e f g h i j (K:KT ρ):=vQ (λk=>z0d.Z18 N a b c l d e f g h i j k (λa b c d e f g h i j=>K (.exit 2) (zby a b c d e f g h i j))) (f87t18 N a b c l d e f g h i j _) (zlx λa b c l d e f g h i j=>f87t19 N a b c l d e f g h i j K)
def f87t16L N (K:KT ρ):=lp11 K (z0d.Z16L N (λa b c d e f g h i j=>K (.exit 2) (zby a b c d e f g h i j))) (λa b c l d e f g h i j k=>z0d.Z17 N a b c l d e f g h i j k (λa b c d e f g h i j=>K (.exit 2) (zby a b c d e f g h i j))) (λF a b c l d e f g h i j=>f87t17 N a b c l d e f g h i j _) (by kernel_rfl)
def f87t16 N a b c d e f g h i j l (K:KT ρ):=vL (zf5 a b c d e f g h i j l) (f87t16L N (jK zk1 K) N a b c d e f g h i j l) (by kernel_rfl)
def f87t15 N a b c l d e f g h i j (K:KT ρ):=vB 2 zk1 K (z0d.Z15 N a b c l d e f g h i j (λa b c d e f g h i j=>K .nrm (zby a b c d e f g h i j))) (f87t16 N a b c l d e f g h i j _) (by kernel_rfl)
def f87t13 N a b c d e f g h i j (K:KT ρ):=vQ (λk=>z0d.Z14 N a b c d e f g h i j k) (f87t14 N a b c d e f g h i j _) (zlx λa b c l d e f g h i j=>f87t15 N a b c l d e f g h i j K)
def f87t12 N a b c d e f g h i j (K:KT ρ):=vB 1 zk1 K (z0d.Z12 N a b c d e f g h i j (λa b c d e f g h i j=>K .nrm (zby a b c d e f g h i j))) (f87t13 N a b c d e f g h i j _) (by kernel_rfl)
def f87t30 N a b c d e f g h i j (K:KT ρ):zpq N 459 (zby a b c d e f g h i j) zk1 K =
 z0d.Z30 N a b c d e f g h i j (λa b c d e f g h i j=>K .nrm (zby a b c d e f g h i j)):=by kernel_rfl
def f87t11 N a b c d e f g h i j (K:KT ρ):=vQ (λk=>z0d.Z12 N a b c d e f g h i j k) (f87t12 N a b c d e f g h i j _) (zf3 λa b c d e f g h i j=>f87t30 N a b c d e f g h i j K)
def f87t9 N a f g h i j b c d e (K:KT ρ):=vQ (λk=>z0d.Z10 N a f g h i j b c d e k (λa b c d e=>K (.exit 0) (zpp a b c d e))) (f87t10 N a f g h i j b c d e _) (zf3 λa f g h i j b c d e=>f87t11 N a f g h i j b c d e K)
def f87t8L N (K:KT ρ):=lp10 K (z0d.Z8L N (λa b c d e=>K (.exit 0) (zpp a b c d e))) (λa f g h i j b c d e k=>z0d.Z9 N a f g h i j b c d e k (λa b c d e=>K (.exit 0) (zpp a b c d e))) (λF a f g h i j b c d e=>f87t9 N a f g h i j b c d e _) (by kernel_rfl)
def f87t8 N a b c d e f g h i j (K:KT ρ):=vL (zby a b c d e f g h i j) (f87t8L N (jK f87l8 K) N a b c d e f g h i j) (by kernel_rfl)
def f87t7 N a f g h i j b c d e (K:KT ρ):=vB 0 f87l8 K (z0d.Z7 N a f g h i j b c d e (λa b c d e=>K .nrm (zpp a b c d e))) (f87t8 N a f g h i j b c d e _) (by kernel_rfl)
def f87t5 N a b c d e f g h i (K:KT ρ):=vQ (λk=>z0d.Z6 N a b c d e f g h i k) (f87t6 N a b c d e f g h i _) (zf3 λa b j c d e f g h i=>f87t7 N a b j c d e f g h i K)
def f87t31 N c a b d e (K:KT ρ):zpq N 15 (zpp c a b d e) f87lE K =
 z0d.Z31 N c a b d e (λf a b=>K .ret (f87s9 f a b)):=by kernel_rfl
def f87t4 N a f g h i b c d e (K:KT ρ):=vQ (λk=>z0d.Z5 N a f g h i b c d e k) (f87t5 N a f g h i b c d e _) (fx5 λa b c d e=>f87t31 N a b c d e K)
def f87t2 N a b c d e f (K:KT ρ):=vQ (λk=>z0d.Z3 N a b c d e f k) (f87t3 N a b c d e f _) (fx9 λg a b c d e f h i=>f87t4 N g a b c d e f h i K)
def f87t0 N b a (K:KT ρ):=vQ (λk=>z0d.Z1 N b a k) (f87t1 N b a _) (fx6 λa c d e f g=>f87t2 N a c d e f g K)
def f87ok(h:z0d.Spec):z0a Tryz.prog 87 e87 :=
 okC Tryz.func87 z2q f87GOk (λN X K=>f87t0 N X.1 X.2.1 K) (by kernel_rfl) λX hb hp=>by
  obtain⟨a,b,_⟩:=X
  obtain⟨N,h⟩:=h a b hb.1 hp
  exact⟨N,Eq.trans (by kernel_rfl) (h N (Nat.le_refl N))⟩
def e87ok:z0a Tryz.prog 87 e87:=f87ok z0d.ok
end Go.Fw
namespace Go.Fw
variable {ρ : Type}
open Go.Proofs
def f88sig:Sig:=⟨[⟨.sl 3 (.int .i64),false,false⟩,⟨.sl 3 (.int .i64),false,false⟩],[⟨.bool,false,false⟩]⟩
def e88:z24:=⟨f88sig,none,λX=>((),((z28.g X.1 X.2.1),()))⟩
def f88G:Gm:=z1n
def f88GOk:GOk Tryz.prog f88G:=GOk.nil
def f88lE:z00:=⟨[],[],[],[],[]⟩
def f88s0(a b:LI):St:=z1k f88sig.ps (a,(b,()))
def f88s1(a b:LI):St:=z16 [(0,.c (.sn 3 tI a none)),(1,.c (.sn 3 tI b none))] [] []
def f88l1:z00:=⟨[0,1],[],[],[],[]⟩
def f88s2(a b:LI)(d:Int):St:=z16 [(0,.c (.sn 3 tI a none)),(1,.c (.sn 3 tI b none)),(5,xi d)] [] []
def f88l2:z00:=⟨[0,1,5],[],[],[],[]⟩
def zsh :St:=z16 [] [] []
def f88l3:z00:=⟨[],[],[],[],[]⟩
def zjz(a:Bool):St:=z16 [(4,xB a)] [] []
def f88l4:z00:=⟨[4],[],[],[],[]⟩
def f88B:Nat->Option z00:=z17 [(0,f88l3),(1000000,f88l4)]
abbrev f88j{ρ:Type}(N n:Nat)(σ:St)(l:z00)(K:KT ρ):Option ρ:=z0p f88G tab f88B N (z2o 99 (z1q Tryz.f88) n) .n σ (z14 (some l) K)
def f88t1 N a b (K:KT ρ):f88j N 2 (f88s0 a b) f88l1 K =
 z28.Z1 N a b (λa b=>K .nrm (f88s1 a b)):=by kernel_rfl
def f88t3 N a b (K:KT ρ):f88j N 5 (f88s1 a b) f88l1 K =
 z28.Z3 N a b (λa b=>K .nrm (f88s1 a b)) (λc=>K .ret (zjz c)):=by kernel_rfl
def f88t6 N a b (K:KT ρ):f88j N 19 (f88s1 a b) f88l2 K =
 z28.Z6 N a b (λa b c=>K .nrm (f88s2 a b c)):=by kernel_rfl
def f88t9 N a b c (K:KT ρ):f88j N 75 (f88s2 a b c) f88l2 K =
 z28.Z9 N a b c (λa b c=>K .nrm (f88s2 a b c)) (K (.exit 0) zsh) (λd=>K .ret (zjz d)):=by kernel_rfl
def f88t8L N (K:KT ρ):=lp3 K (z28.Z8L N (K (.exit 0) zsh) (λa=>K .ret (zjz a))) (λb c d k=>z28.Z9 N b c d k (K (.exit 0) zsh) (λa=>K .ret (zjz a))) (λF b c d=>f88t9 N b c d _) (by kernel_rfl)
def f88t8 N a b c (K:KT ρ):=vL (f88s2 a b c) (f88t8L N (jK f88l3 K) N a b c) (by kernel_rfl)
def f88t7 N a b c (K:KT ρ):=vB 0 f88l3 K (z28.Z7 N a b c (K .nrm zsh) (λd=>K .ret (zjz d))) (f88t8 N a b c _) (by kernel_rfl)
def f88t5 N a b (K:KT ρ):=vQ (λk=>z28.Z6 N a b k) (f88t6 N a b _) (fx3 λa b c=>f88t7 N a b c K)
def f88t10 N  (K:KT ρ):f88j N 15 zsh f88lE K =
 z28.Z10 N (λa=>K .ret (zjz a)):=by kernel_rfl
def f88t4 N a b (K:KT ρ):=vQ (λk=>z28.Z5 N a b k (λc=>K .ret (zjz c))) (f88t5 N a b _) (f88t10 N K)
def f88t2 N a b (K:KT ρ):=vQ (λk=>z28.Z3 N a b k (λc=>K .ret (zjz c))) (f88t3 N a b _) (fx2 λa b=>f88t4 N a b K)
def f88t0 N a b (K:KT ρ):=vQ (λk=>z28.Z1 N a b k) (f88t1 N a b _) (fx2 λa b=>f88t2 N a b K)
def f88ok(h:z28.Spec):z0a Tryz.prog 88 e88 :=
 okC Tryz.func88 z2q f88GOk (λN X K=>f88t0 N X.1 X.2.1 K) (by kernel_rfl) λX hb hp=>by
  obtain⟨a,b,_⟩:=X
  obtain⟨N,h⟩:=h a b hb.1 hb.2.1
  exact⟨N,Eq.trans (by kernel_rfl) (h N (Nat.le_refl N))⟩
def e88ok:z0a Tryz.prog 88 e88:=f88ok z28.ok
end Go.Fw
namespace Go.Fw
variable {ρ : Type}
open Go.Proofs
def f44sig:Sig:=⟨[⟨.pair (.int .i64) (.pair (.int .i64) (.sl 3 (.int .i64))),true,false⟩],[⟨.sl 27 (.pair (.int .i64) (.pair (.int .i64) (.sl 3 (.int .i64)))),false,false⟩,⟨.bool,false,false⟩]⟩
def e44:z24:=⟨f44sig,(some λX=>z0c.P X.1),λX=>((),((z0c.g X.1).1,((z0c.g X.1).2,())))⟩
def f44G:Gm:=z3m (z3m (z3m (z3m z1n 65 e65) 86 e86) 87 e87) 88 e88
def f44GOk:GOk Tryz.prog f44G:=((((GOk.nil).add e65ok (by kernel_rfl)).add e86ok (by kernel_rfl)).add e87ok (by kernel_rfl)).add e88ok (by kernel_rfl)
def f44lE:z00:=⟨[],[],[],[],[]⟩
def f44s0(a:MT):St:=z1k f44sig.ps (a,())
def f44s1(a b:Int)(c:LI):St:=z16 [(1,xb 1)] [(1,(27,[yi a,yi b,.sn 3 tI c none]))] []
def f44l1:z00:=⟨[1],[1],[],[],[]⟩
def f44s2(a:LM)(b c:Int)(d:LI):St:=z16 [(1,xb 1),(4,xo 1000256)] [(1,(27,[yi b,yi c,.sn 3 tI d none]))] [(1000256,(⟨27,tM 3,a,true,false⟩:Row))]
def f44l2:z00:=⟨[1,4],[1],[],[],[(⟨false,4,0⟩,1000256)]⟩
def zbz(a:LM)(b c d:Int)(e:LI):St:=z16 [(1,xb 1),(4,xo 1000256),(5,xi b)] [(1,(27,[yi c,yi d,.sn 3 tI e none]))] [(1000256,(⟨27,tM 3,a,true,false⟩:Row))]
def zka:z00:=⟨[1,4,5],[1],[],[],[(⟨false,4,0⟩,1000256)]⟩
def zhq(a:LM)(b c d e:Int)(f:LI):St:=z16 [(1,xb 1),(4,xo 1000256),(5,xi b),(6,xi c)] [(1,(27,[yi d,yi e,.sn 3 tI f none]))] [(1000256,(⟨27,tM 3,a,true,false⟩:Row))]
def zq1:z00:=⟨[1,4,5,6],[1],[],[],[(⟨false,4,0⟩,1000256)]⟩
def zq0(a:LM)(b:LI)(c d e f:Int)(g:LI)(h i:Int):St:=z16 [(1,xb 1),(4,xo 1000256),(5,xi c),(6,xi d),(7,xb 7)] [(1,(27,[yi e,yi f,.sn 3 tI g none])),(7,(27,[yi h,yi i,.own 20000450]))] [(1000256,(⟨27,tM 3,a,true,false⟩:Row)),(20000450,(⟨3,.int .i64,b,true,false⟩:Row))]
def f44l5:z00:=⟨[1,4,5,6,7],[1,7],[],[],[(⟨false,4,0⟩,1000256),(⟨true,7,2⟩,20000450)]⟩
def zm2(a:LM)(b:LI)(c d:Int)(e:Bool)(f g:Int)(h:LI)(i j:Int):St:=z16 [(1,xb 1),(4,xo 1000256),(5,xi c),(6,xi d),(7,xb 7),(8,xB e)] [(1,(27,[yi f,yi g,.sn 3 tI h none])),(7,(27,[yi i,yi j,.own 20000450]))] [(1000256,(⟨27,tM 3,a,true,false⟩:Row)),(20000450,(⟨3,.int .i64,b,true,false⟩:Row))]
def f44l6:z00:=⟨[1,4,5,6,7,8],[1,7],[],[],[(⟨false,4,0⟩,1000256),(⟨true,7,2⟩,20000450)]⟩
def f44s7(a:LM)(b:LI)(c d:Int)(e:Bool)(f g h:Int)(i:LI)(j l:Int):St:=z16 [(1,xb 1),(4,xo 1000256),(5,xi c),(6,xi d),(7,xb 7),(8,xB e),(9,xi f)] [(1,(27,[yi g,yi h,.sn 3 tI i none])),(7,(27,[yi j,yi l,.own 20000450]))] [(1000256,(⟨27,tM 3,a,true,false⟩:Row)),(20000450,(⟨3,.int .i64,b,true,false⟩:Row))]
def f44l7:z00:=⟨[1,4,5,6,7,8,9],[1,7],[],[],[(⟨false,4,0⟩,1000256),(⟨true,7,2⟩,20000450)]⟩
def zpz(a:LM):St:=z16 [(4,xo 1000256)] [] [(1000256,(⟨27,tM 3,a,true,false⟩:Row))]
def f44l8:z00:=⟨[4],[],[],[],[(⟨false,4,0⟩,1000256)]⟩
def za9(a:LM)(b:Bool):St:=z16 [(2,xo 1000128),(3,xB b)] [] [(1000128,(⟨27,tM 3,a,true,false⟩:Row))]
def f44l9:z00:=⟨[2,3],[],[⟨⟨false,2,0⟩,30000000,27,.pair (.int .i64) (.pair (.int .i64) (.sl 3 (.int .i64))),true⟩],[],[(⟨false,2,0⟩,1000128)]⟩
def f44B:Nat->Option z00:=z17 [(4,f44l6),(3,zq1),(2,zka),(1,zka),(0,f44l8),(1000000,f44l9)]
abbrev zla{ρ:Type}(N n:Nat)(σ:St)(l:z00)(K:KT ρ):Option ρ:=z0p f44G tab f44B N (z2o 99 (z1q Tryz.f44) n) .n σ (z14 (some l) K)
def f44t1 N a (K:KT ρ):zla N 2 (f44s0 a) f44l1 K =
 z0c.Z1 N a (λb c d=>K .nrm (f44s1 b c d)):=by kernel_rfl
def f44t3 N a b c (K:KT ρ):zla N 5 (f44s1 a b c) f44l2 K =
 z0c.Z3 N a b c (λd a b c=>K .nrm (f44s2 d a b c)):=by kernel_rfl
def f44t6 N a b c d (K:KT ρ):zla N 19 (f44s2 a b c d) zka K =
 z0c.Z6 N a b c d (λa e b c d=>K .nrm (zbz a e b c d)):=by kernel_rfl
def f44t10 N a b c d e (K:KT ρ):zla N 139 (zbz a b c d e) zka K =
 z0c.Z10 N a b c d e (λa b c d e=>K .nrm (zbz a b c d e)) (λa=>K (.exit 0) (zpz a)):=by kernel_rfl
def f44t14 N a b c d e (K:KT ρ):zla N 1099 (zbz a b c d e) zq1 K =
 z0c.Z14 N a b c d e (λa b f c d e=>K .nrm (zhq a b f c d e)):=by kernel_rfl
def f44t18 N a b f c d e (K:KT ρ):zla N 8779 (zhq a b f c d e) zq1 K =
 z0c.Z18 N a b f c d e (λa b f c d e=>K .nrm (zhq a b f c d e)) (λa b c d e=>K (.exit 2) (zbz a b c d e)):=by kernel_rfl
def f44t22 N a b c d e f (K:KT ρ):zla N 70219 (zhq a b c d e f) f44l5 K =
 z0c.Z22 N a b c d e f (λa g b c d e f h i=>K .nrm (zq0 a g b c d e f h i)):=by kernel_rfl
def f44t24 N a b c d e f g h i (K:KT ρ):zla N 168523 (zq0 a b c d e f g h i) f44l5 K =
 z0c.Z24 N a b c d e f g h i (λa b c d e f g h i=>K .nrm (zq0 a b c d e f g h i)) (λj l=>K .ret (za9 j l)):=by kernel_rfl
def f44t26 N a b c d e f g h i (K:KT ρ):zla N 365131 (zq0 a b c d e f g h i) f44l5 K =
 z0c.Z26 N a b c d e f g h i (λa b c d e f g h i=>K .nrm (zq0 a b c d e f g h i)):=by kernel_rfl
def f44t28 N a b c d e f g h i (K:KT ρ):zla N 758347 (zq0 a b c d e f g h i) f44l6 K =
 z0c.Z28 N a b c d e f g h i (λa b c d j e f g h i=>K .nrm (zm2 a b c d j e f g h i)):=by kernel_rfl
def f44t31 N a b c d e f g h i j (K:KT ρ):zla N 2593355 (zm2 a b c d e f g h i j) f44l7 K =
 z0c.Z31 N a b c d e f g h i j (λa b c d e l f g h i j=>K .nrm (f44s7 a b c d e l f g h i j)):=by kernel_rfl
def f44t34 N a b c d e l f g h i j (K:KT ρ):zla N 9933387 (f44s7 a b c d e l f g h i j) f44l7 K =
 z0c.Z34 N a b c d e l f g h i j (λa b c d e l f g h i j=>K .nrm (f44s7 a b c d e l f g h i j)) (λa b c d e f g h i j=>K (.exit 4) (zm2 a b c d e f g h i j)):=by kernel_rfl
def f44t33L N (K:KT ρ):=lp11 K (z0c.Z33L N (λa b c d e f g h i j=>K (.exit 4) (zm2 a b c d e f g h i j))) (λa b c d e l f g h i j k=>z0c.Z34 N a b c d e l f g h i j k (λa b c d e f g h i j=>K (.exit 4) (zm2 a b c d e f g h i j))) (λF a b c d e l f g h i j=>f44t34 N a b c d e l f g h i j _) (by kernel_rfl)
def f44t33 N a b c d e f g h i j l (K:KT ρ):=vL (f44s7 a b c d e f g h i j l) (f44t33L N (jK f44l6 K) N a b c d e f g h i j l) (by kernel_rfl)
def f44t32 N a b c d e l f g h i j (K:KT ρ):=vB 4 f44l6 K (z0c.Z32 N a b c d e l f g h i j (λa b c d e f g h i j=>K .nrm (zm2 a b c d e f g h i j))) (f44t33 N a b c d e l f g h i j _) (by kernel_rfl)
def f44t30 N a b c d e f g h i j (K:KT ρ):=vQ (λk=>z0c.Z31 N a b c d e f g h i j k) (f44t31 N a b c d e f g h i j _) (zlx λa b c d e l f g h i j=>f44t32 N a b c d e l f g h i j K)
def f44t35 N a g b c h d e f i j (K:KT ρ):zla N 2069067 (zm2 a g b c h d e f i j) zq1 K =
 z0c.Z35 N a g b c h d e f i j (λa b c d e f=>K .nrm (zhq a b c d e f)) (λl m=>K .ret (za9 l m)):=by kernel_rfl
def f44t29 N a b c d e f g h i j (K:KT ρ):=vQ (λk=>z0c.Z30 N a b c d e f g h i j k) (f44t30 N a b c d e f g h i j _) (zf3 λa b c d e f g h i j=>f44t35 N a b c d e f g h i j K)
def f44t27 N a b c d e f g h i (K:KT ρ):=vQ (λk=>z0c.Z28 N a b c d e f g h i k) (f44t28 N a b c d e f g h i _) (zf3 λa b c d j e f g h i=>f44t29 N a b c d j e f g h i K)
def f44t25 N a b c d e f g h i (K:KT ρ):=vQ (λk=>z0c.Z26 N a b c d e f g h i k) (f44t26 N a b c d e f g h i _) (fx9 λa b c d e f g h i=>f44t27 N a b c d e f g h i K)
def f44t23 N a b c d e f g h i (K:KT ρ):=vQ (λk=>z0c.Z24 N a b c d e f g h i k (λj l=>K .ret (za9 j l))) (f44t24 N a b c d e f g h i _) (fx9 λa b c d e f g h i=>f44t25 N a b c d e f g h i K)
def f44t21 N a b c d e f (K:KT ρ):=vQ (λk=>z0c.Z22 N a b c d e f k) (f44t22 N a b c d e f _) (fx9 λa g b c d e f h i=>f44t23 N a g b c d e f h i K)
def f44t20 N a b c d e f (K:KT ρ):=vB 3 zq1 K (z0c.Z20 N a b c d e f (λa b c d e f=>K .nrm (zhq a b c d e f)) (λg h=>K .ret (za9 g h))) (f44t21 N a b c d e f _) (by kernel_rfl)
def f44t36 N a b c d e f (K:KT ρ):zla N 29259 (zhq a b c d e f) zq1 K =
 z0c.Z36 N a b c d e f (λa b c d e f=>K .nrm (zhq a b c d e f)):=by kernel_rfl
def f44t19 N a b c d e f (K:KT ρ):=vQ (λk=>z0c.Z20 N a b c d e f k (λg h=>K .ret (za9 g h))) (f44t20 N a b c d e f _) (fx6 λa b c d e f=>f44t36 N a b c d e f K)
def f44t17 N a b f c d e (K:KT ρ):=vQ (λk=>z0c.Z18 N a b f c d e k (λa b c d e=>K (.exit 2) (zbz a b c d e))) (f44t18 N a b f c d e _) (fx6 λa b f c d e=>f44t19 N a b f c d e K)
def f44t16L N (K:KT ρ):=lp6 K (z0c.Z16L N (λa b c d e=>K (.exit 2) (zbz a b c d e)) (λf g=>K .ret (za9 f g))) (λa b h c d e k=>z0c.Z17 N a b h c d e k (λa b c d e=>K (.exit 2) (zbz a b c d e)) (λf g=>K .ret (za9 f g))) (λF a b h c d e=>f44t17 N a b h c d e _) (by kernel_rfl)
def f44t16 N a b c d e f (K:KT ρ):=vL (zhq a b c d e f) (f44t16L N (jK zka K) N a b c d e f) (by kernel_rfl)
def f44t15 N a b f c d e (K:KT ρ):=vB 2 zka K (z0c.Z15 N a b f c d e (λa b c d e=>K .nrm (zbz a b c d e)) (λg h=>K .ret (za9 g h))) (f44t16 N a b f c d e _) (by kernel_rfl)
def f44t13 N a b c d e (K:KT ρ):=vQ (λk=>z0c.Z14 N a b c d e k) (f44t14 N a b c d e _) (fx6 λa b f c d e=>f44t15 N a b f c d e K)
def f44t12 N a b c d e (K:KT ρ):=vB 1 zka K (z0c.Z12 N a b c d e (λa b c d e=>K .nrm (zbz a b c d e)) (λf g=>K .ret (za9 f g))) (f44t13 N a b c d e _) (by kernel_rfl)
def f44t37 N a b c d e (K:KT ρ):zla N 459 (zbz a b c d e) zka K =
 z0c.Z37 N a b c d e (λa b c d e=>K .nrm (zbz a b c d e)):=by kernel_rfl
def f44t11 N a b c d e (K:KT ρ):=vQ (λk=>z0c.Z12 N a b c d e k (λf g=>K .ret (za9 f g))) (f44t12 N a b c d e _) (fx5 λa b c d e=>f44t37 N a b c d e K)
def f44t9 N a b c d e (K:KT ρ):=vQ (λk=>z0c.Z10 N a b c d e k (λa=>K (.exit 0) (zpz a))) (f44t10 N a b c d e _) (fx5 λa b c d e=>f44t11 N a b c d e K)
def f44t8L N (K:KT ρ):=lp5 K (z0c.Z8L N (λa=>K (.exit 0) (zpz a)) (λb c=>K .ret (za9 b c))) (λa d e f g k=>z0c.Z9 N a d e f g k (λa=>K (.exit 0) (zpz a)) (λb c=>K .ret (za9 b c))) (λF a d e f g=>f44t9 N a d e f g _) (by kernel_rfl)
def f44t8 N a b c d e (K:KT ρ):=vL (zbz a b c d e) (f44t8L N (jK f44l8 K) N a b c d e) (by kernel_rfl)
def f44t7 N a b c d e (K:KT ρ):=vB 0 f44l8 K (z0c.Z7 N a b c d e (λa=>K .nrm (zpz a)) (λf g=>K .ret (za9 f g))) (f44t8 N a b c d e _) (by kernel_rfl)
def f44t5 N a b c d (K:KT ρ):=vQ (λk=>z0c.Z6 N a b c d k) (f44t6 N a b c d _) (fx5 λa e b c d=>f44t7 N a e b c d K)
def f44t38 N a (K:KT ρ):zla N 15 (zpz a) f44lE K =
 z0c.Z38 N a (λb c=>K .ret (za9 b c)):=by kernel_rfl
def f44t4 N a b c d (K:KT ρ):=vQ (λk=>z0c.Z5 N a b c d k (λe f=>K .ret (za9 e f))) (f44t5 N a b c d _) (funext λa=>f44t38 N a K)
def f44t2 N a b c (K:KT ρ):=vQ (λk=>z0c.Z3 N a b c k) (f44t3 N a b c _) (fx4 λd a b c=>f44t4 N d a b c K)
def f44t0 N a (K:KT ρ):=vQ (λk=>z0c.Z1 N a k) (f44t1 N a _) (fx3 λb c d=>f44t2 N b c d K)
def f44ok(h:z0c.Spec):z0a Tryz.prog 44 e44 :=
 okC Tryz.func44 z2q f44GOk (λN X K=>f44t0 N X.1 K) (by kernel_rfl) λX hb hp=>by
  obtain⟨a,_⟩:=X
  obtain⟨N,h⟩:=h a hb.1 hp
  exact⟨N,Eq.trans (by kernel_rfl) (h N (Nat.le_refl N))⟩
def e44ok:z0a Tryz.prog 44 e44:=f44ok z0c.ok
end Go.Fw
namespace Go.Fw
variable {ρ : Type}
open Go.Proofs
def f45ps:List PT:=[⟨.sl 22 (.sl 3 (.int .i64)),false,false⟩]
def e45:zb8:=⟨f45ps,22,.sl 3 (.int .i64),(some λX=>z0b.P X.1),λX=>z0b.g X.1⟩
def f45G:Gm:=z3m z1n 89 e89
def f45GOk:GOk Tryz.prog f45G:=(GOk.nil).add e89ok (by kernel_rfl)
def f45lE:z00:=⟨[],[],[],[],[]⟩
def f45s0(a:LL):St:=zbs f45ps (a,())
def f45s1(a:LL):St:=z16 [(0,.c (.sn 22 (.sl 3 tI) a none))] [] []
def f45l1:z00:=⟨[0],[],[],[],[]⟩
def zk8(a:LL):St:=z16 [(3,xo 1000192)] [] [(1000192,(⟨22,.sl 3 tI,a,false,false⟩:Row))]
def f45l2:z00:=⟨[3],[],[],[],[(⟨false,3,0⟩,1000192)]⟩
def zhp(a:LL)(b:Int):St:=z16 [(3,xo 1000192),(4,xi b)] [] [(1000192,(⟨22,.sl 3 tI,a,false,false⟩:Row))]
def zpy:z00:=⟨[3,4],[],[],[],[(⟨false,3,0⟩,1000192)]⟩
def f45s4(a b:LL)(c:Int):St:=z16 [(3,xo 1000192),(4,xi c),(5,xo 1000320)] [] [(1000192,(⟨22,.sl 3 tI,a,false,false⟩:Row)),(1000320,(⟨22,.sl 3 tI,b,false,false⟩:Row))]
def f45l4:z00:=⟨[3,4,5],[],[⟨⟨false,5,0⟩,30000000,22,.sl 3 (.int .i64),false⟩],[],[(⟨false,3,0⟩,1000192),(⟨false,5,0⟩,1000320)]⟩
def zd6(a b:LL)(c d:Int):St:=z16 [(3,xo 1000192),(4,xi c),(5,xo 1000320),(6,xi d)] [] [(1000192,(⟨22,.sl 3 tI,a,false,false⟩:Row)),(1000320,(⟨22,.sl 3 tI,b,false,false⟩:Row))]
def zk9:z00:=⟨[3,4,5,6],[],[],[],[(⟨false,3,0⟩,1000192),(⟨false,5,0⟩,1000320)]⟩
def f45s6(a b:LL)(c d e:Int):St:=z16 [(3,xo 1000192),(4,xi c),(5,xo 1000320),(6,xi d),(7,xi e)] [] [(1000192,(⟨22,.sl 3 tI,a,false,false⟩:Row)),(1000320,(⟨22,.sl 3 tI,b,false,false⟩:Row))]
def f45l6:z00:=⟨[3,4,5,6,7],[],[],[],[(⟨false,3,0⟩,1000192),(⟨false,5,0⟩,1000320)]⟩
def f45s7(a b:LL)(c d e f:Int):St:=z16 [(3,xo 1000192),(4,xi c),(5,xo 1000320),(6,xi d),(7,xi e),(8,xi f)] [] [(1000192,(⟨22,.sl 3 tI,a,false,false⟩:Row)),(1000320,(⟨22,.sl 3 tI,b,false,false⟩:Row))]
def f45l7:z00:=⟨[3,4,5,6,7,8],[],[],[],[(⟨false,3,0⟩,1000192),(⟨false,5,0⟩,1000320)]⟩
def f45s8(a b:LL)(c d e f g:Int):St:=z16 [(3,xo 1000192),(4,xi c),(5,xo 1000320),(6,xi d),(7,xi e),(8,xi f),(9,xi g)] [] [(1000192,(⟨22,.sl 3 tI,a,false,false⟩:Row)),(1000320,(⟨22,.sl 3 tI,b,false,false⟩:Row))]
def f45l8:z00:=⟨[3,4,5,6,7,8,9],[],[],[],[(⟨false,3,0⟩,1000192),(⟨false,5,0⟩,1000320)]⟩
def f45s9(a b:LL)(c d e f g h:Int):St:=z16 [(3,xo 1000192),(4,xi c),(5,xo 1000320),(6,xi d),(7,xi e),(8,xi f),(9,xi g),(10,xi h)] [] [(1000192,(⟨22,.sl 3 tI,a,false,false⟩:Row)),(1000320,(⟨22,.sl 3 tI,b,false,false⟩:Row))]
def f45l9:z00:=⟨[3,4,5,6,7,8,9,10],[],[],[],[(⟨false,3,0⟩,1000192),(⟨false,5,0⟩,1000320)]⟩
def zg6(a:LL)(b:Int):St:=z16 [(4,xi b),(5,xo 1000320)] [] [(1000320,(⟨22,.sl 3 tI,a,false,false⟩:Row))]
def zst:z00:=⟨[4,5],[],[],[],[(⟨false,5,0⟩,1000320)]⟩
def f45s11(a:LL):St:=z16 [(2,xo 1000128)] [] [(1000128,(⟨22,.sl 3 tI,a,false,false⟩:Row))]
def f45l11:z00:=⟨[2],[],[],[],[(⟨false,2,0⟩,1000128)]⟩
def f45B:Nat->Option z00:=z17 [(4,zk9),(3,zk9),(2,zst),(1,zpy),(0,f45l2),(1000000,f45l11)]
abbrev zl9{ρ:Type}(N n:Nat)(σ:St)(l:z00)(K:KT ρ):Option ρ:=z0p f45G tab f45B N (z2o 99 (z1q Tryz.f45) n) .n σ (z14 (some l) K)
def f45t1 N a (K:KT ρ):zl9 N 2 (f45s0 a) f45l1 K =
 z0b.Z1 N a (λa=>K .nrm (f45s1 a)):=by kernel_rfl
def f45t3 N a (K:KT ρ):zl9 N 5 (f45s1 a) f45l2 K =
 z0b.Z3 N a (λb=>K .nrm (zk8 b)):=by kernel_rfl
def f45t6 N a (K:KT ρ):zl9 N 19 (zk8 a) zpy K =
 z0b.Z6 N a (λa b=>K .nrm (zhp a b)):=by kernel_rfl
def f45t10 N a b (K:KT ρ):zl9 N 139 (zhp a b) zpy K =
 z0b.Z10 N a b (λa b=>K .nrm (zhp a b)) (λa=>K (.exit 0) (zk8 a)):=by kernel_rfl
def f45t14 N a b (K:KT ρ):zl9 N 1099 (zhp a b) f45l4 K =
 z0b.Z14 N a b (λa c b=>K .nrm (f45s4 a c b)):=by kernel_rfl
def f45t17 N a b c (K:KT ρ):zl9 N 4683 (f45s4 a b c) zk9 K =
 z0b.Z17 N a b c (λa b c d=>K .nrm (zd6 a b c d)):=by kernel_rfl
def f45t21 N c a b d (K:KT ρ):zl9 N 35403 (zd6 c a b d) zk9 K =
 z0b.Z21 N c a b d (λc a b d=>K .nrm (zd6 c a b d)) (λa b=>K (.exit 2) (zg6 a b)):=by kernel_rfl
def f45t25 N a b c d (K:KT ρ):zl9 N 281163 (zd6 a b c d) f45l6 K =
 z0b.Z25 N a b c d (λa b c d e=>K .nrm (f45s6 a b c d e)):=by kernel_rfl
def f45t27 N a b c d e (K:KT ρ):zl9 N 674379 (f45s6 a b c d e) f45l7 K =
 z0b.Z27 N a b c d e (λa b c d e f=>K .nrm (f45s7 a b c d e f)):=by kernel_rfl
def f45t29 N a b c d e f (K:KT ρ):zl9 N 1460811 (f45s7 a b c d e f) f45l8 K =
 z0b.Z29 N a b c d e f (λa b c d e f g=>K .nrm (f45s8 a b c d e f g)):=by kernel_rfl
def f45t31 N a b c d e f g (K:KT ρ):zl9 N 3033675 (f45s8 a b c d e f g) f45l9 K =
 z0b.Z31 N a b c d e f g (λa b c d e f g h=>K .nrm (f45s9 a b c d e f g h)):=by kernel_rfl
def f45t34 N a b c d e f g h (K:KT ρ):zl9 N 10373707 (f45s9 a b c d e f g h) f45l9 K =
 z0b.Z34 N a b c d e f g h (λa b c d e f g h=>K .nrm (f45s9 a b c d e f g h)) (λa b c d=>K (.exit 4) (zd6 a b c d)):=by kernel_rfl
def f45t33L N (K:KT ρ):=lp8 K (z0b.Z33L N (λa b c d=>K (.exit 4) (zd6 a b c d))) (λa b c d e f g h k=>z0b.Z34 N a b c d e f g h k (λa b c d=>K (.exit 4) (zd6 a b c d))) (λF a b c d e f g h=>f45t34 N a b c d e f g h _) (by kernel_rfl)
def f45t33 N a b c d e f g h (K:KT ρ):=vL (f45s9 a b c d e f g h) (f45t33L N (jK zk9 K) N a b c d e f g h) (by kernel_rfl)
def f45t32 N a b c d e f g h (K:KT ρ):=vB 4 zk9 K (z0b.Z32 N a b c d e f g h (λa b c d=>K .nrm (zd6 a b c d))) (f45t33 N a b c d e f g h _) (by kernel_rfl)
def f45t30 N a b c d e f g (K:KT ρ):=vQ (λk=>z0b.Z31 N a b c d e f g k) (f45t31 N a b c d e f g _) (fx8 λa b c d e f g h=>f45t32 N a b c d e f g h K)
def f45t28 N a b c d e f (K:KT ρ):=vQ (λk=>z0b.Z29 N a b c d e f k) (f45t29 N a b c d e f _) (fx7 λa b c d e f g=>f45t30 N a b c d e f g K)
def f45t26 N a b c d e (K:KT ρ):=vQ (λk=>z0b.Z27 N a b c d e k) (f45t27 N a b c d e _) (fx6 λa b c d e f=>f45t28 N a b c d e f K)
def f45t24 N a b c d (K:KT ρ):=vQ (λk=>z0b.Z25 N a b c d k) (f45t25 N a b c d _) (fx5 λa b c d e=>f45t26 N a b c d e K)
def f45t23 N a b c d (K:KT ρ):=vB 3 zk9 K (z0b.Z23 N a b c d (λa b c d=>K .nrm (zd6 a b c d))) (f45t24 N a b c d _) (by kernel_rfl)
def f45t35 N a b c d (K:KT ρ):zl9 N 117323 (zd6 a b c d) zk9 K =
 z0b.Z35 N a b c d (λa b c d=>K .nrm (zd6 a b c d)):=by kernel_rfl
def f45t22 N a b c d (K:KT ρ):=vQ (λk=>z0b.Z23 N a b c d k) (f45t23 N a b c d _) (fx4 λa b c d=>f45t35 N a b c d K)
def f45t20 N c a b d (K:KT ρ):=vQ (λk=>z0b.Z21 N c a b d k (λa b=>K (.exit 2) (zg6 a b))) (f45t21 N c a b d _) (fx4 λc a b d=>f45t22 N c a b d K)
def f45t19L N (K:KT ρ):=lp4 K (z0b.Z19L N (λa b=>K (.exit 2) (zg6 a b))) (λc a b d k=>z0b.Z20 N c a b d k (λa b=>K (.exit 2) (zg6 a b))) (λF c a b d=>f45t20 N c a b d _) (by kernel_rfl)
def f45t19 N a b c d (K:KT ρ):=vL (zd6 a b c d) (f45t19L N (jK zst K) N a b c d) (by kernel_rfl)
def f45t18 N c a b d (K:KT ρ):=vB 2 zst K (z0b.Z18 N c a b d (λa b=>K .nrm (zg6 a b))) (f45t19 N c a b d _) (by kernel_rfl)
def f45t16 N a b c (K:KT ρ):=vQ (λk=>z0b.Z17 N a b c k) (f45t17 N a b c _) (fx4 λa b c d=>f45t18 N a b c d K)
def f45t36 N b a (K:KT ρ):zl9 N 3659 (zg6 b a) zpy K =
 z0b.Z36 N b a (λc a=>K .nrm (zhp c a)):=by kernel_rfl
def f45t15 N c a b (K:KT ρ):=vQ (λk=>z0b.Z16 N c a b k) (f45t16 N c a b _) (fx2 λa b=>f45t36 N a b K)
def f45t13 N a b (K:KT ρ):=vQ (λk=>z0b.Z14 N a b k) (f45t14 N a b _) (fx3 λa c b=>f45t15 N a c b K)
def f45t12 N a b (K:KT ρ):=vB 1 zpy K (z0b.Z12 N a b (λa b=>K .nrm (zhp a b))) (f45t13 N a b _) (by kernel_rfl)
def f45t37 N a b (K:KT ρ):zl9 N 459 (zhp a b) zpy K =
 z0b.Z37 N a b (λa b=>K .nrm (zhp a b)):=by kernel_rfl
def f45t11 N a b (K:KT ρ):=vQ (λk=>z0b.Z12 N a b k) (f45t12 N a b _) (fx2 λa b=>f45t37 N a b K)
def f45t9 N a b (K:KT ρ):=vQ (λk=>z0b.Z10 N a b k (λa=>K (.exit 0) (zk8 a))) (f45t10 N a b _) (fx2 λa b=>f45t11 N a b K)
def f45t8L N (K:KT ρ):=lp2 K (z0b.Z8L N (λa=>K (.exit 0) (zk8 a))) (λa b k=>z0b.Z9 N a b k (λa=>K (.exit 0) (zk8 a))) (λF a b=>f45t9 N a b _) (by kernel_rfl)
def f45t8 N a b (K:KT ρ):=vL (zhp a b) (f45t8L N (jK f45l2 K) N a b) (by kernel_rfl)
def f45t7 N a b (K:KT ρ):=vB 0 f45l2 K (z0b.Z7 N a b (λa=>K .nrm (zk8 a))) (f45t8 N a b _) (by kernel_rfl)
def f45t5 N a (K:KT ρ):=vQ (λk=>z0b.Z6 N a k) (f45t6 N a _) (fx2 λa b=>f45t7 N a b K)
def f45t38 N a (K:KT ρ):zl9 N 15 (zk8 a) f45lE K =
 z0b.Z38 N a (λb=>K .ret (f45s11 b)):=by kernel_rfl
def f45t4 N a (K:KT ρ):=vQ (λk=>z0b.Z5 N a k) (f45t5 N a _) (funext λa=>f45t38 N a K)
def f45t2 N a (K:KT ρ):=vQ (λk=>z0b.Z3 N a k) (f45t3 N a _) (funext λb=>f45t4 N b K)
def f45t0 N a (K:KT ρ):=vQ (λk=>z0b.Z1 N a k) (f45t1 N a _) (funext λa=>f45t2 N a K)
def f45ok(h:z0b.Spec):z6s Tryz.prog 45 e45 :=
 okS Tryz.func45 z2q f45GOk (λN X K=>f45t0 N X.1 K) (by kernel_rfl) λX hb hp=>by
  obtain⟨a,_⟩:=X
  obtain⟨N,h⟩:=h a hb.1 hp
  exact⟨N,Eq.trans (by kernel_rfl) (h N (Nat.le_refl N))⟩
def e45ok:z6s Tryz.prog 45 e45:=f45ok z0b.ok
end Go.Fw
namespace Go.Fw
variable {ρ : Type}
open Go.Proofs
def f14sig:Sig:=⟨[⟨.pair (.int .i64) (.pair (.int .i64) (.sl 3 (.int .i64))),true,false⟩],[⟨.sl 27 (.pair (.int .i64) (.pair (.int .i64) (.sl 3 (.int .i64)))),false,false⟩,⟨.bool,false,false⟩]⟩
def e14:z24:=⟨f14sig,none,λX=>((),((z06.g X.1).1,((z06.g X.1).2,())))⟩
def f14G:Gm:=z3m (addS (z3m (z3m z1n 25 e25) 44 e44) 45 e45) 46 e46
def f14GOk:GOk Tryz.prog f14G:=((((GOk.nil).add e25ok (by kernel_rfl)).add e44ok (by kernel_rfl)).addS e45ok).add e46ok (by kernel_rfl)
def f14lE:z00:=⟨[],[],[],[],[]⟩
def f14s0(a:MT):St:=z1k f14sig.ps (a,())
def f14s1(a b:Int)(c:LI):St:=z16 [(1,xb 1)] [(1,(27,[yi a,yi b,.sn 3 tI c none]))] []
def f14l1:z00:=⟨[1],[1],[],[],[]⟩
def f14s2(a:LM)(b:Bool)(c d:Int)(e:LI):St:=z16 [(1,xb 1),(4,xo 1000256),(5,xB b)] [(1,(27,[yi c,yi d,.sn 3 tI e none]))] [(1000256,(⟨27,tM 3,a,true,false⟩:Row))]
def f14l2:z00:=⟨[1,4,5],[1],[],[],[(⟨false,4,0⟩,1000256)]⟩
def f14s3(a:LM)(b c:Int)(d:LI):St:=z16 [(1,xb 1),(4,xo 1000256)] [(1,(27,[yi b,yi c,.sn 3 tI d none]))] [(1000256,(⟨27,tM 3,a,true,false⟩:Row))]
def f14l3:z00:=⟨[1,4],[1],[],[],[(⟨false,4,0⟩,1000256)]⟩
def f14s4(a:LM)(b:LL)(c d:Int)(e:LI):St:=z16 [(1,xb 1),(4,xo 1000256),(6,xo 1000384)] [(1,(27,[yi c,yi d,.sn 3 tI e none]))] [(1000256,(⟨27,tM 3,a,true,false⟩:Row)),(1000384,(⟨22,.sl 3 tI,b,false,false⟩:Row))]
def f14l4:z00:=⟨[1,4,6],[1],[⟨⟨false,6,0⟩,30000000,22,.sl 3 (.int .i64),false⟩],[],[(⟨false,4,0⟩,1000256),(⟨false,6,0⟩,1000384)]⟩
def f14s5(a:LM)(b:LL)(c d e:Int)(f:LI):St:=z16 [(1,xb 1),(4,xo 1000256),(6,xo 1000384),(7,xi c)] [(1,(27,[yi d,yi e,.sn 3 tI f none]))] [(1000256,(⟨27,tM 3,a,true,false⟩:Row)),(1000384,(⟨22,.sl 3 tI,b,false,false⟩:Row))]
def f14l5:z00:=⟨[1,4,6,7],[1],[],[],[(⟨false,4,0⟩,1000256),(⟨false,6,0⟩,1000384)]⟩
def f14s6(a:LL)(b:LM)(d e f:Int)(g:LI):St:=z16 [(1,xb 1),(4,.c (.sn 27 (tM 3) b none)),(6,xo 1000384),(7,xi d)] [(1,(27,[yi e,yi f,.sn 3 tI g none]))] [(1000384,(⟨22,.sl 3 tI,a,false,false⟩:Row))]
def f14l6:z00:=⟨[1,4,6,7],[1],[],[(⟨false,4,0⟩,27,.pair (.int .i64) (.pair (.int .i64) (.sl 3 (.int .i64))))],[(⟨false,6,0⟩,1000384)]⟩
def f14s7(a:LL)(b d:Int)(e:LI):St:=z16 [(1,xb 1),(6,.c (.sn 22 (.sl 3 tI) a none))] [(1,(27,[yi b,yi d,.sn 3 tI e none]))] []
def f14l7:z00:=⟨[1,6],[1],[],[(⟨false,6,0⟩,22,.sl 3 (.int .i64))],[]⟩
def f14s8(a:LL)(b d:Int)(e:LI):St:=z16 [(1,xb 1),(6,.c (.sn 22 (.sl 3 tI) a none))] [(1,(27,[yi b,yi d,.sn 3 tI e none]))] []
def f14l8:z00:=⟨[1,6],[1],[],[],[]⟩
def f14s9(a:LL)(b c:Int)(d:LI):St:=z16 [(1,xb 1),(6,xo 1000384)] [(1,(27,[yi b,yi c,.sn 3 tI d none]))] [(1000384,(⟨22,.sl 3 tI,a,false,false⟩:Row))]
def f14l9:z00:=⟨[1,6],[1],[],[],[(⟨false,6,0⟩,1000384)]⟩
def f14s10(a:LL)(b:LM)(c d:Int)(e:LI):St:=z16 [(1,xb 1),(6,xo 1000384),(8,xo 1000512)] [(1,(27,[yi c,yi d,.sn 3 tI e none]))] [(1000384,(⟨22,.sl 3 tI,a,false,false⟩:Row)),(1000512,(⟨27,tM 3,b,true,false⟩:Row))]
def f14l10:z00:=⟨[1,6,8],[1],[],[],[(⟨false,6,0⟩,1000384),(⟨false,8,0⟩,1000512)]⟩
def zo2(a:LL)(b:LM)(c d e:Int)(f:LI):St:=z16 [(1,xb 1),(6,xo 1000384),(8,xo 1000512),(9,xi c)] [(1,(27,[yi d,yi e,.sn 3 tI f none]))] [(1000384,(⟨22,.sl 3 tI,a,false,false⟩:Row)),(1000512,(⟨27,tM 3,b,true,false⟩:Row))]
def f14l11:z00:=⟨[1,6,8,9],[1],[],[],[(⟨false,6,0⟩,1000384),(⟨false,8,0⟩,1000512)]⟩
def zkj(a:LM):St:=z16 [(8,xo 1000512)] [] [(1000512,(⟨27,tM 3,a,true,false⟩:Row))]
def zt2:z00:=⟨[8],[],[],[],[(⟨false,8,0⟩,1000512)]⟩
def zki(a:LM)(b:Bool):St:=z16 [(2,xo 1000128),(3,xB b)] [] [(1000128,(⟨27,tM 3,a,true,false⟩:Row))]
def f14l13:z00:=⟨[2,3],[],[⟨⟨false,2,0⟩,30000000,27,.pair (.int .i64) (.pair (.int .i64) (.sl 3 (.int .i64))),true⟩],[],[(⟨false,2,0⟩,1000128)]⟩
def f14B:Nat->Option z00:=z17 [(0,f14l7),(2,zt2),(1000000,f14l13)]
abbrev zql{ρ:Type}(N n:Nat)(σ:St)(l:z00)(K:KT ρ):Option ρ:=z0p f14G tab f14B N (z2o 99 (z1q Tryz.f14) n) .n σ (z14 (some l) K)
def f14t1 N a (K:KT ρ):zql N 2 (f14s0 a) f14l1 K =
 z06.Z1 N a (λb c d=>K .nrm (f14s1 b c d)):=by kernel_rfl
def f14t3 N a b c (K:KT ρ):zql N 5 (f14s1 a b c) f14l1 K =
 z06.Z3 N a b c (λa b c=>K .nrm (f14s1 a b c)) (λd e=>K .ret (zki d e)):=by kernel_rfl
def f14t5 N a b c (K:KT ρ):zql N 11 (f14s1 a b c) f14l2 K =
 z06.Z5 N a b c (λd e a b c=>K .nrm (f14s2 d e a b c)):=by kernel_rfl
def f14t7 N a e b c d (K:KT ρ):zql N 23 (f14s2 a e b c d) f14l3 K =
 z06.Z7 N a e b c d (λa b c d=>K .nrm (f14s3 a b c d)) (λf g=>K .ret (zki f g)):=by kernel_rfl
def f14t9 N a b c d (K:KT ρ):zql N 47 (f14s3 a b c d) f14l4 K =
 z06.Z9 N a b c d (λa e b c d=>K .nrm (f14s4 a e b c d)):=by kernel_rfl
def f14t12 N a b c d e (K:KT ρ):zql N 159 (f14s4 a b c d e) f14l5 K =
 z06.Z12 N a b c d e (λa b f c d e=>K .nrm (f14s5 a b f c d e)):=by kernel_rfl
def f14t15 N a e f b c d (K:KT ρ):zql N 607 (f14s6 a e f b c d) f14l6 K =
 z06.Z15 N a e f b c d (λa e f b c d=>K .nrm (f14s6 a e f b c d)) (λa b c d=>K (.exit 0) (f14s7 a b c d)):=by kernel_rfl
def f14t14L N (K:KT ρ):=lp6 K (z06.Z14L N (λa b c d=>K (.exit 0) (f14s7 a b c d))) (λa e f b c d k=>z06.Z15 N a e f b c d k (λa b c d=>K (.exit 0) (f14s7 a b c d))) (λF a e f b c d=>f14t15 N a e f b c d _) (by kernel_rfl)
def f14t14 N a b c d e f (K:KT ρ):=vL (f14s5 a b c d e f) (f14t14L N (jK f14l7 K) N b a c d e f) (by kernel_rfl)
def f14t13 N e a f b c d (K:KT ρ):=vB 0 f14l8 K (z06.Z13 N e a f b c d (λa b c d=>K .nrm (f14s8 a b c d))) (f14t14 N e a f b c d _) (by kernel_rfl)
def f14t11 N a b c d e (K:KT ρ):=vQ (λk=>z06.Z12 N a b c d e k) (f14t12 N a b c d e _) (fx6 λa b f c d e=>f14t13 N a b f c d e K)
def f14t17 N a b c d (K:KT ρ):zql N 191 (f14s8 a b c d) f14l9 K =
 z06.Z17 N a b c d (λa b c d=>K .nrm (f14s9 a b c d)):=by kernel_rfl
def f14t19 N a b c d (K:KT ρ):zql N 383 (f14s9 a b c d) f14l10 K =
 z06.Z19 N a b c d (λa e b c d=>K .nrm (f14s10 a e b c d)):=by kernel_rfl
def f14t22 N a b c d e (K:KT ρ):zql N 1279 (f14s10 a b c d e) f14l11 K =
 z06.Z22 N a b c d e (λa b f c d e=>K .nrm (zo2 a b f c d e)):=by kernel_rfl
def f14t25 N b a c d e f (K:KT ρ):zql N 4863 (zo2 b a c d e f) f14l11 K =
 z06.Z25 N b a c d e f (λb a c d e f=>K .nrm (zo2 b a c d e f)) (λa=>K (.exit 2) (zkj a)):=by kernel_rfl
def f14t24L N (K:KT ρ):=lp6 K (z06.Z24L N (λa=>K (.exit 2) (zkj a))) (λb a c d e f k=>z06.Z25 N b a c d e f k (λa=>K (.exit 2) (zkj a))) (λF b a c d e f=>f14t25 N b a c d e f _) (by kernel_rfl)
def f14t24 N a b c d e f (K:KT ρ):=vL (zo2 a b c d e f) (f14t24L N (jK zt2 K) N a b c d e f) (by kernel_rfl)
def f14t23 N b a c d e f (K:KT ρ):=vB 2 zt2 K (z06.Z23 N b a c d e f (λa=>K .nrm (zkj a))) (f14t24 N b a c d e f _) (by kernel_rfl)
def f14t21 N a b c d e (K:KT ρ):=vQ (λk=>z06.Z22 N a b c d e k) (f14t22 N a b c d e _) (fx6 λa b f c d e=>f14t23 N a b f c d e K)
def f14t26 N a (K:KT ρ):zql N 1023 (zkj a) f14lE K =
 z06.Z26 N a (λb c=>K .ret (zki b c)):=by kernel_rfl
def f14t20 N b a c d e (K:KT ρ):=vQ (λk=>z06.Z21 N b a c d e k) (f14t21 N b a c d e _) (funext λa=>f14t26 N a K)
def f14t18 N a b c d (K:KT ρ):=vQ (λk=>z06.Z19 N a b c d k) (f14t19 N a b c d _) (fx5 λa e b c d=>f14t20 N a e b c d K)
def f14t16 N a b c d (K:KT ρ):=vQ (λk=>z06.Z17 N a b c d k) (f14t17 N a b c d _) (fx4 λa b c d=>f14t18 N a b c d K)
def f14t10 N e a b c d (K:KT ρ):=vQ (λk=>z06.Z11 N e a b c d k) (f14t11 N e a b c d _) (fx4 λa b c d=>f14t16 N a b c d K)
def f14t8 N a b c d (K:KT ρ):=vQ (λk=>z06.Z9 N a b c d k) (f14t9 N a b c d _) (fx5 λa e b c d=>f14t10 N a e b c d K)
def f14t6 N a e b c d (K:KT ρ):=vQ (λk=>z06.Z7 N a e b c d k (λf g=>K .ret (zki f g))) (f14t7 N a e b c d _) (fx4 λa b c d=>f14t8 N a b c d K)
def f14t4 N a b c (K:KT ρ):=vQ (λk=>z06.Z5 N a b c k) (f14t5 N a b c _) (fx5 λd e a b c=>f14t6 N d e a b c K)
def f14t2 N a b c (K:KT ρ):=vQ (λk=>z06.Z3 N a b c k (λd e=>K .ret (zki d e))) (f14t3 N a b c _) (fx3 λa b c=>f14t4 N a b c K)
def f14t0 N a (K:KT ρ):=vQ (λk=>z06.Z1 N a k) (f14t1 N a _) (fx3 λb c d=>f14t2 N b c d K)
def f14ok(h:z06.Spec):z0a Tryz.prog 14 e14 :=
 okC Tryz.func14 z2q f14GOk (λN X K=>f14t0 N X.1 K) (by kernel_rfl) λX hb hp=>by
  obtain⟨a,_⟩:=X
  obtain⟨N,h⟩:=h a hb.1
  exact⟨N,Eq.trans (by kernel_rfl) (h N (Nat.le_refl N))⟩
def e14ok:z0a Tryz.prog 14 e14:=f14ok z06.ok
end Go.Fw
namespace Go.Fw
variable {ρ : Type}
open Go.Proofs
def f85sig:Sig:=⟨[⟨.pair (.int .i64) (.pair (.int .i64) (.sl 3 (.int .i64))),true,false⟩,⟨.int .i64,false,false⟩],[⟨.bool,false,false⟩]⟩
def e85:z24:=⟨f85sig,(some λX=>z0z.P X.1 X.2.1),λX=>((),((z0z.g X.1 X.2.1),()))⟩
def f85G:Gm:=z3m (z3m z1n 105 e105) 106 e106
def f85GOk:GOk Tryz.prog f85G:=((GOk.nil).add zgb (by kernel_rfl)).add e106ok (by kernel_rfl)
def f85lE:z00:=⟨[],[],[],[],[]⟩
def f85s0(a:MT)(b:Int):St:=z1k f85sig.ps (a,(b,()))
def f85s1(a b c:Int)(d:LI):St:=z16 [(1,xi a),(2,xb 2)] [(2,(27,[yi b,yi c,.sn 3 tI d none]))] []
def f85l1:z00:=⟨[1,2],[2],[],[],[]⟩
def zd2(a b c d:Int)(e:LI):St:=z16 [(1,xi a),(2,xb 2),(5,xi b)] [(2,(27,[yi c,yi d,.sn 3 tI e none]))] []
def zk2:z00:=⟨[1,2,5],[2],[],[],[]⟩
def f85s3(a b c d e:Int)(f:LI):St:=z16 [(1,xi a),(2,xb 2),(5,xi b),(6,xi c)] [(2,(27,[yi d,yi e,.sn 3 tI f none]))] []
def f85l3:z00:=⟨[1,2,5,6],[2],[],[],[]⟩
def zpr :St:=z16 [] [] []
def f85l4:z00:=⟨[],[],[],[],[]⟩
def zeh(a:Bool):St:=z16 [(4,xB a)] [] []
def f85l5:z00:=⟨[4],[],[],[],[]⟩
def f85B:Nat->Option z00:=z17 [(2,zk2),(1,zk2),(0,f85l4),(1000000,f85l5)]
abbrev f85j{ρ:Type}(N n:Nat)(σ:St)(l:z00)(K:KT ρ):Option ρ:=z0p f85G tab f85B N (z2o 99 (z1q Tryz.f85) n) .n σ (z14 (some l) K)
def f85t1 N b a (K:KT ρ):f85j N 2 (f85s0 b a) f85l1 K =
 z0z.Z1 N b a (λa c d e=>K .nrm (f85s1 a c d e)):=by kernel_rfl
def f85t4 N a b c d (K:KT ρ):f85j N 9 (f85s1 a b c d) zk2 K =
 z0z.Z4 N a b c d (λa e b c d=>K .nrm (zd2 a e b c d)):=by kernel_rfl
def f85t8 N a b c d e (K:KT ρ):f85j N 69 (zd2 a b c d e) zk2 K =
 z0z.Z8 N a b c d e (λa b c d e=>K .nrm (zd2 a b c d e)) (K (.exit 0) zpr):=by kernel_rfl
def f85t12 N a b c d e (K:KT ρ):f85j N 549 (zd2 a b c d e) f85l3 K =
 z0z.Z12 N a b c d e (λa b f c d e=>K .nrm (f85s3 a b f c d e)):=by kernel_rfl
def f85t15 N a b f c d e (K:KT ρ):f85j N 2341 (f85s3 a b f c d e) f85l3 K =
 z0z.Z15 N a b f c d e (λa b f c d e=>K .nrm (f85s3 a b f c d e)) (λa b c d e=>K (.exit 2) (zd2 a b c d e)) (λg=>K .ret (zeh g)):=by kernel_rfl
def f85t14L N (K:KT ρ):=lp6 K (z0z.Z14L N (λa b c d e=>K (.exit 2) (zd2 a b c d e)) (λf=>K .ret (zeh f))) (λa b g c d e k=>z0z.Z15 N a b g c d e k (λa b c d e=>K (.exit 2) (zd2 a b c d e)) (λf=>K .ret (zeh f))) (λF a b g c d e=>f85t15 N a b g c d e _) (by kernel_rfl)
def f85t14 N a b c d e f (K:KT ρ):=vL (f85s3 a b c d e f) (f85t14L N (jK zk2 K) N a b c d e f) (by kernel_rfl)
def f85t13 N a b f c d e (K:KT ρ):=vB 2 zk2 K (z0z.Z13 N a b f c d e (λa b c d e=>K .nrm (zd2 a b c d e)) (λg=>K .ret (zeh g))) (f85t14 N a b f c d e _) (by kernel_rfl)
def f85t11 N a b c d e (K:KT ρ):=vQ (λk=>z0z.Z12 N a b c d e k) (f85t12 N a b c d e _) (fx6 λa b f c d e=>f85t13 N a b f c d e K)
def f85t10 N a b c d e (K:KT ρ):=vB 1 zk2 K (z0z.Z10 N a b c d e (λa b c d e=>K .nrm (zd2 a b c d e)) (λf=>K .ret (zeh f))) (f85t11 N a b c d e _) (by kernel_rfl)
def f85t16 N a b c d e (K:KT ρ):f85j N 229 (zd2 a b c d e) zk2 K =
 z0z.Z16 N a b c d e (λa b c d e=>K .nrm (zd2 a b c d e)):=by kernel_rfl
def f85t9 N a b c d e (K:KT ρ):=vQ (λk=>z0z.Z10 N a b c d e k (λf=>K .ret (zeh f))) (f85t10 N a b c d e _) (fx5 λa b c d e=>f85t16 N a b c d e K)
def f85t7 N a b c d e (K:KT ρ):=vQ (λk=>z0z.Z8 N a b c d e k (K (.exit 0) zpr)) (f85t8 N a b c d e _) (fx5 λa b c d e=>f85t9 N a b c d e K)
def f85t6L N (K:KT ρ):=lp5 K (z0z.Z6L N (K (.exit 0) zpr) (λa=>K .ret (zeh a))) (λb c d e f k=>z0z.Z7 N b c d e f k (K (.exit 0) zpr) (λa=>K .ret (zeh a))) (λF b c d e f=>f85t7 N b c d e f _) (by kernel_rfl)
def f85t6 N a b c d e (K:KT ρ):=vL (zd2 a b c d e) (f85t6L N (jK f85l4 K) N a b c d e) (by kernel_rfl)
def f85t5 N a b c d e (K:KT ρ):=vB 0 f85l4 K (z0z.Z5 N a b c d e (K .nrm zpr) (λf=>K .ret (zeh f))) (f85t6 N a b c d e _) (by kernel_rfl)
def f85t3 N a b c d (K:KT ρ):=vQ (λk=>z0z.Z4 N a b c d k) (f85t4 N a b c d _) (fx5 λa e b c d=>f85t5 N a e b c d K)
def f85t17 N  (K:KT ρ):f85j N 7 zpr f85lE K =
 z0z.Z17 N (λa=>K .ret (zeh a)):=by kernel_rfl
def f85t2 N a b c d (K:KT ρ):=vQ (λk=>z0z.Z3 N a b c d k (λe=>K .ret (zeh e))) (f85t3 N a b c d _) (f85t17 N K)
def f85t0 N b a (K:KT ρ):=vQ (λk=>z0z.Z1 N b a k) (f85t1 N b a _) (fx4 λa c d e=>f85t2 N a c d e K)
def f85ok(h:z0z.Spec):z0a Tryz.prog 85 e85 :=
 okC Tryz.func85 z2q f85GOk (λN X K=>f85t0 N X.1 X.2.1 K) (by kernel_rfl) λX hb hp=>by
  obtain⟨a,b,_⟩:=X
  obtain⟨N,h⟩:=h a b hb.1 hp
  exact⟨N,Eq.trans (by kernel_rfl) (h N (Nat.le_refl N))⟩
def e85ok:z0a Tryz.prog 85 e85:=f85ok z0z.ok
end Go.Fw
namespace Go.Fw
variable {ρ : Type}
open Go.Proofs
def f40sig:Sig:=⟨[⟨.pair (.int .i64) (.pair (.int .i64) (.sl 3 (.int .i64))),true,false⟩],[⟨.sl 27 (.pair (.int .i64) (.pair (.int .i64) (.sl 3 (.int .i64)))),false,false⟩,⟨.bool,false,false⟩]⟩
def e40:z24:=⟨f40sig,none,λX=>((),((z1c.g X.1).1,((z1c.g X.1).2,())))⟩
def f40G:Gm:=z3m (z3m (z3m z1n 14 e14) 84 e84) 85 e85
def f40GOk:GOk Tryz.prog f40G:=(((GOk.nil).add e14ok (by kernel_rfl)).add e84ok (by kernel_rfl)).add e85ok (by kernel_rfl)
def f40lE:z00:=⟨[],[],[],[],[]⟩
def f40s0(a:MT):St:=z1k f40sig.ps (a,())
def f40s1(a b:Int)(c:LI):St:=z16 [(1,xb 1)] [(1,(27,[yi a,yi b,.sn 3 tI c none]))] []
def f40l1:z00:=⟨[1],[1],[],[],[]⟩
def zm3(a:LM)(b:Bool):St:=z16 [(4,xo 1000256),(5,xB b)] [] [(1000256,(⟨27,tM 3,a,true,false⟩:Row))]
def f40l2:z00:=⟨[4,5],[],[],[],[(⟨false,4,0⟩,1000256)]⟩
def f40s3(a:LM)(b:Bool)(c:Int):St:=z16 [(4,xo 1000256),(5,xB b),(6,xi c)] [] [(1000256,(⟨27,tM 3,a,true,false⟩:Row))]
def f40l3:z00:=⟨[4,5,6],[],[],[],[(⟨false,4,0⟩,1000256)]⟩
def f40s4(a:LM)(b:Bool):St:=z16 [(2,xo 1000128),(3,xB b)] [] [(1000128,(⟨27,tM 3,a,true,false⟩:Row))]
def f40l4:z00:=⟨[2,3],[],[⟨⟨false,2,0⟩,30000000,27,.pair (.int .i64) (.pair (.int .i64) (.sl 3 (.int .i64))),true⟩],[],[(⟨false,2,0⟩,1000128)]⟩
def f40B:Nat->Option z00:=z17 [(0,f40l2),(1000000,f40l4)]
abbrev f40j{ρ:Type}(N n:Nat)(σ:St)(l:z00)(K:KT ρ):Option ρ:=z0p f40G tab f40B N (z2o 99 (z1q Tryz.f40) n) .n σ (z14 (some l) K)
def f40t1 N a (K:KT ρ):f40j N 2 (f40s0 a) f40l1 K =
 z1c.Z1 N a (λb c d=>K .nrm (f40s1 b c d)):=by kernel_rfl
def f40t3 N a b c (K:KT ρ):f40j N 5 (f40s1 a b c) f40l2 K =
 z1c.Z3 N a b c (λd e=>K .nrm (zm3 d e)):=by kernel_rfl
def f40t6 N a b (K:KT ρ):f40j N 19 (zm3 a b) f40l3 K =
 z1c.Z6 N a b (λa b c=>K .nrm (f40s3 a b c)):=by kernel_rfl
def f40t9 N a b c (K:KT ρ):f40j N 75 (f40s3 a b c) f40l3 K =
 z1c.Z9 N a b c (λa b c=>K .nrm (f40s3 a b c)) (λa b=>K (.exit 0) (zm3 a b)):=by kernel_rfl
def f40t8L N (K:KT ρ):=lp3 K (z1c.Z8L N (λa b=>K (.exit 0) (zm3 a b))) (λa b c k=>z1c.Z9 N a b c k (λa b=>K (.exit 0) (zm3 a b))) (λF a b c=>f40t9 N a b c _) (by kernel_rfl)
def f40t8 N a b c (K:KT ρ):=vL (f40s3 a b c) (f40t8L N (jK f40l2 K) N a b c) (by kernel_rfl)
def f40t7 N a b c (K:KT ρ):=vB 0 f40l2 K (z1c.Z7 N a b c (λa b=>K .nrm (zm3 a b))) (f40t8 N a b c _) (by kernel_rfl)
def f40t5 N a b (K:KT ρ):=vQ (λk=>z1c.Z6 N a b k) (f40t6 N a b _) (fx3 λa b c=>f40t7 N a b c K)
def f40t10 N a b (K:KT ρ):f40j N 15 (zm3 a b) f40lE K =
 z1c.Z10 N a b (λc d=>K .ret (f40s4 c d)):=by kernel_rfl
def f40t4 N a b (K:KT ρ):=vQ (λk=>z1c.Z5 N a b k) (f40t5 N a b _) (fx2 λa b=>f40t10 N a b K)
def f40t2 N a b c (K:KT ρ):=vQ (λk=>z1c.Z3 N a b c k) (f40t3 N a b c _) (fx2 λd e=>f40t4 N d e K)
def f40t0 N a (K:KT ρ):=vQ (λk=>z1c.Z1 N a k) (f40t1 N a _) (fx3 λb c d=>f40t2 N b c d K)
def f40ok(h:z1c.Spec):z0a Tryz.prog 40 e40 :=
 okC Tryz.func40 z2q f40GOk (λN X K=>f40t0 N X.1 K) (by kernel_rfl) λX hb hp=>by
  obtain⟨a,_⟩:=X
  obtain⟨N,h⟩:=h a hb.1
  exact⟨N,Eq.trans (by kernel_rfl) (h N (Nat.le_refl N))⟩
def e40ok:z0a Tryz.prog 40 e40:=f40ok z1c.ok
end Go.Fw
namespace Go.Fw
variable {ρ : Type}
open Go.Proofs
def f10sig:Sig:=⟨[⟨.pair (.int .i64) (.pair (.int .i64) (.sl 3 (.int .i64))),true,false⟩],[⟨.bool,false,false⟩]⟩
def e10:z24:=⟨f10sig,none,λX=>((),((z2b.g X.1),()))⟩
def f10G:Gm:=z3m z1n 40 e40
def f10GOk:GOk Tryz.prog f10G:=(GOk.nil).add e40ok (by kernel_rfl)
def f10lE:z00:=⟨[],[],[],[],[]⟩
def f10s0(a:MT):St:=z1k f10sig.ps (a,())
def f10s1(a:Bool):St:=z16 [(2,xB a)] [] []
def f10l1:z00:=⟨[2],[],[],[],[]⟩
def f10B:Nat->Option z00:=z17 [(1000000,f10l1)]
abbrev f10j{ρ:Type}(N n:Nat)(σ:St)(l:z00)(K:KT ρ):Option ρ:=z0p f10G tab f10B N (z2o 99 (z1q Tryz.f10) n) .n σ (z14 (some l) K)
def f10t0 N a (K:KT ρ):f10j N 1 (f10s0 a) f10lE K =
 z2b.Z0 N a (λb=>K .ret (f10s1 b)):=by kernel_rfl
def f10ok(h:z2b.Spec):z0a Tryz.prog 10 e10 :=
 okC Tryz.func10 z2q f10GOk (λN X K=>f10t0 N X.1 K) (by kernel_rfl) λX hb hp=>by
  obtain⟨a,_⟩:=X
  obtain⟨N,h⟩:=h a hb.1
  exact⟨N,Eq.trans (by kernel_rfl) (h N (Nat.le_refl N))⟩
def e10ok:z0a Tryz.prog 10 e10:=f10ok z2b.ok
end Go.Fw
namespace Go.Fw
variable {ρ : Type}
open Go.Proofs
def f91sig:Sig:=⟨[⟨.int .i64,false,false⟩,⟨.int .i64,false,false⟩,⟨.int .i64,false,false⟩],[⟨.bool,false,false⟩]⟩
def e91:z24:=⟨f91sig,none,λX=>((),((z2i.g X.1 X.2.1 X.2.2.1),()))⟩
def f91G:Gm:=z1n
def f91GOk:GOk Tryz.prog f91G:=GOk.nil
def f91lE:z00:=⟨[],[],[],[],[]⟩
def f91s0(a b c:Int):St:=z1k f91sig.ps (a,(b,(c,())))
def f91s1(a:Bool):St:=z16 [(6,xB a)] [] []
def f91l1:z00:=⟨[6],[],[],[],[]⟩
def f91B:Nat->Option z00:=z17 [(1000000,f91l1)]
abbrev f91j{ρ:Type}(N n:Nat)(σ:St)(l:z00)(K:KT ρ):Option ρ:=z0p f91G tab f91B N (z2o 99 (z1q Tryz.f91) n) .n σ (z14 (some l) K)
def f91t0 N a b c (K:KT ρ):f91j N 1 (f91s0 a b c) f91lE K =
 z2i.Z0 N a b c (λd=>K .ret (f91s1 d)):=by kernel_rfl
def f91ok(h:z2i.Spec):z0a Tryz.prog 91 e91 :=
 okC Tryz.func91 z2q f91GOk (λN X K=>f91t0 N X.1 X.2.1 X.2.2.1 K) (by kernel_rfl) λX hb hp=>by
  obtain⟨a,b,c,_⟩:=X
  obtain⟨N,h⟩:=h a b c
  exact⟨N,Eq.trans (by kernel_rfl) (h N (Nat.le_refl N))⟩
def e91ok:z0a Tryz.prog 91 e91:=f91ok z2i.ok
end Go.Fw
namespace Go.Fw
variable {ρ : Type}
open Go.Proofs
def zt5:Sig:=⟨[⟨.int .i64,false,false⟩],[⟨.bool,false,false⟩]⟩
def e142:z24:=⟨zt5,none,λX=>((),((z1t.g X.1),()))⟩
def f142G:Gm:=z3m z1n 91 e91
def f142GOk:GOk Tryz.prog f142G:=(GOk.nil).add e91ok (by kernel_rfl)
def f142lE:z00:=⟨[],[],[],[],[]⟩
def f142s0(a:Int):St:=z1k zt5.ps (a,())
def f142s1(a:Bool):St:=z16 [(2,xB a)] [] []
def f142l1:z00:=⟨[2],[],[],[],[]⟩
def f142B:Nat->Option z00:=z17 [(1000000,f142l1)]
abbrev f142j{ρ:Type}(N n:Nat)(σ:St)(l:z00)(K:KT ρ):Option ρ:=z0p f142G tab f142B N (z2o 99 (z1q Tryz.f142) n) .n σ (z14 (some l) K)
def f142t0 N a (K:KT ρ):f142j N 1 (f142s0 a) f142lE K =
 z1t.Z0 N a (λb=>K .ret (f142s1 b)):=by kernel_rfl
def f142ok(h:z1t.Spec):z0a Tryz.prog 142 e142 :=
 okC Tryz.func142 z2q f142GOk (λN X K=>f142t0 N X.1 K) (by kernel_rfl) λX hb hp=>by
  obtain⟨a,_⟩:=X
  obtain⟨N,h⟩:=h a
  exact⟨N,Eq.trans (by kernel_rfl) (h N (Nat.le_refl N))⟩
def e142ok:z0a Tryz.prog 142 e142:=f142ok z1t.ok
end Go.Fw
namespace Go.Fw
variable {ρ : Type}
open Go.Proofs
def zsy:Sig:=⟨[⟨.sl 3 (.int .i64),false,false⟩,⟨.fnc 142,false,false⟩],[⟨.int .i64,false,false⟩]⟩
def e174:z24:=⟨zsy,none,λX=>((),((z09.g X.1 X.2.1),()))⟩
def f174G:Gm:=z3m z1n 142 e142
def f174GOk:GOk Tryz.prog f174G:=(GOk.nil).add e142ok (by kernel_rfl)
def f174lE:z00:=⟨[],[],[],[],[]⟩
def f174s0(a:LI)(b:Unit):St:=z1k zsy.ps (a,(b,()))
def f174s1(a:LI):St:=z16 [(0,.c (.sn 3 tI a none)),(1,.c (.fn 142 []))] [] []
def f174l1:z00:=⟨[0,1],[],[],[],[]⟩
def zo1(a:LI)(b d:Int):St:=z16 [(0,.c (.sn 3 tI a none)),(1,.c (.fn 142 [])),(7,xi b),(8,xi d)] [] []
def f174l2:z00:=⟨[0,1,7,8],[],[],[],[]⟩
def zkg :St:=z16 [] [] []
def zsz:z00:=⟨[],[],[],[],[]⟩
def zg8(a:Int):St:=z16 [(4,xi a)] [] []
def f174l4:z00:=⟨[4],[],[],[],[]⟩
def f174B:Nat->Option z00:=z17 [(0,zsz),(1000000,f174l4)]
abbrev f174j{ρ:Type}(N n:Nat)(σ:St)(l:z00)(K:KT ρ):Option ρ:=z0p f174G tab f174B N (z2o 99 (z1q Tryz.f174) n) .n σ (z14 (some l) K)
def f174t1 N a b (K:KT ρ):f174j N 2 (f174s0 a b) f174l1 K =
 z09.Z1 N a b (λa=>K .nrm (f174s1 a)):=by kernel_rfl
def f174t4 N a (K:KT ρ):f174j N 9 (f174s1 a) f174l2 K =
 z09.Z4 N a (λa b c=>K .nrm (zo1 a b c)):=by kernel_rfl
def f174t7 N a b c (K:KT ρ):f174j N 37 (zo1 a b c) f174l2 K =
 z09.Z7 N a b c (λa b c=>K .nrm (zo1 a b c)) (K (.exit 0) zkg) (λd=>K .ret (zg8 d)):=by kernel_rfl
def f174t6L N (K:KT ρ):=lp3 K (z09.Z6L N (K (.exit 0) zkg) (λa=>K .ret (zg8 a))) (λb c d k=>z09.Z7 N b c d k (K (.exit 0) zkg) (λa=>K .ret (zg8 a))) (λF b c d=>f174t7 N b c d _) (by kernel_rfl)
def f174t6 N a b c (K:KT ρ):=vL (zo1 a b c) (f174t6L N (jK zsz K) N a b c) (by kernel_rfl)
def f174t5 N a b c (K:KT ρ):=vB 0 zsz K (z09.Z5 N a b c (K .nrm zkg) (λd=>K .ret (zg8 d))) (f174t6 N a b c _) (by kernel_rfl)
def f174t3 N a (K:KT ρ):=vQ (λk=>z09.Z4 N a k) (f174t4 N a _) (fx3 λa b c=>f174t5 N a b c K)
def f174t8 N  (K:KT ρ):f174j N 7 zkg f174lE K =
 z09.Z8 N (λa=>K .ret (zg8 a)):=by kernel_rfl
def f174t2 N a (K:KT ρ):=vQ (λk=>z09.Z3 N a k (λb=>K .ret (zg8 b))) (f174t3 N a _) (f174t8 N K)
def f174t0 N a b (K:KT ρ):=vQ (λk=>z09.Z1 N a b k) (f174t1 N a b _) (funext λa=>f174t2 N a K)
def f174ok(h:z09.Spec):z0a Tryz.prog 174 e174 :=
 okC Tryz.func174 z2q f174GOk (λN X K=>f174t0 N X.1 X.2.1 K) (by kernel_rfl) λX hb hp=>by
  obtain⟨a,b,_⟩:=X
  obtain⟨N,h⟩:=h a b hb.1
  exact⟨N,Eq.trans (by kernel_rfl) (h N (Nat.le_refl N))⟩
def e174ok:z0a Tryz.prog 174 e174:=f174ok z09.ok
end Go.Fw
namespace Go.Fw
variable {ρ : Type}
open Go.Proofs
def zt6:Sig:=⟨[⟨.sl 3 (.int .i64),false,false⟩,⟨.fnc 142,false,false⟩],[⟨.bool,false,false⟩]⟩
def e141:z24:=⟨zt6,none,λX=>((),((z0x.g X.1 X.2.1),()))⟩
def f141G:Gm:=z3m z1n 174 e174
def f141GOk:GOk Tryz.prog f141G:=(GOk.nil).add e174ok (by kernel_rfl)
def f141lE:z00:=⟨[],[],[],[],[]⟩
def f141s0(a:LI)(b:Unit):St:=z1k zt6.ps (a,(b,()))
def f141s1(a:Bool):St:=z16 [(4,xB a)] [] []
def f141l1:z00:=⟨[4],[],[],[],[]⟩
def f141B:Nat->Option z00:=z17 [(1000000,f141l1)]
abbrev f141j{ρ:Type}(N n:Nat)(σ:St)(l:z00)(K:KT ρ):Option ρ:=z0p f141G tab f141B N (z2o 99 (z1q Tryz.f141) n) .n σ (z14 (some l) K)
def f141t0 N a b (K:KT ρ):f141j N 1 (f141s0 a b) f141lE K =
 z0x.Z0 N a b (λc=>K .ret (f141s1 c)):=by kernel_rfl
def f141ok(h:z0x.Spec):z0a Tryz.prog 141 e141 :=
 okC Tryz.func141 z2q f141GOk (λN X K=>f141t0 N X.1 X.2.1 K) (by kernel_rfl) λX hb hp=>by
  obtain⟨a,b,_⟩:=X
  obtain⟨N,h⟩:=h a b hb.1
  exact⟨N,Eq.trans (by kernel_rfl) (h N (Nat.le_refl N))⟩
def e141ok:z0a Tryz.prog 141 e141:=f141ok z0x.ok
end Go.Fw
namespace Go.Fw
variable {ρ : Type}
open Go.Proofs
def ztw:Sig:=⟨[⟨.pair (.int .i64) (.pair (.int .i64) (.sl 3 (.int .i64))),true,false⟩],[⟨.bool,false,false⟩]⟩
def e102:z24:=⟨ztw,none,λX=>((),((z3v.g X.1),()))⟩
def f102G:Gm:=z3m (z3m z1n 91 e91) 141 e141
def f102GOk:GOk Tryz.prog f102G:=((GOk.nil).add e91ok (by kernel_rfl)).add e141ok (by kernel_rfl)
def f102lE:z00:=⟨[],[],[],[],[]⟩
def f102s0(a:MT):St:=z1k ztw.ps (a,())
def f102s1(a:Bool):St:=z16 [(2,xB a)] [] []
def f102l1:z00:=⟨[2],[],[],[],[]⟩
def f102B:Nat->Option z00:=z17 [(1000000,f102l1)]
abbrev f102j{ρ:Type}(N n:Nat)(σ:St)(l:z00)(K:KT ρ):Option ρ:=z0p f102G tab f102B N (z2o 99 (z1q Tryz.f102) n) .n σ (z14 (some l) K)
def f102t0 N a (K:KT ρ):f102j N 1 (f102s0 a) f102lE K =
 z3v.Z0 N a (λb=>K .ret (f102s1 b)):=by kernel_rfl
def f102ok(h:z3v.Spec):z0a Tryz.prog 102 e102 :=
 okC Tryz.func102 z2q f102GOk (λN X K=>f102t0 N X.1 K) (by kernel_rfl) λX hb hp=>by
  obtain⟨a,_⟩:=X
  obtain⟨N,h⟩:=h a hb.1
  exact⟨N,Eq.trans (by kernel_rfl) (h N (Nat.le_refl N))⟩
def e102ok:z0a Tryz.prog 102 e102:=f102ok z3v.ok
end Go.Fw
namespace Go.Fw
variable {ρ : Type}
open Go.Proofs
def f83sig:Sig:=⟨[⟨.pair (.int .i64) (.pair (.int .i64) (.sl 3 (.int .i64))),true,false⟩,⟨.int .i64,false,false⟩,⟨.int .i64,false,false⟩],[⟨.int .i64,false,false⟩]⟩
def e83:z24:=⟨f83sig,(some λX=>z0m.P X.1 X.2.1 X.2.2.1),λX=>((),((z0m.g X.1 X.2.1 X.2.2.1),()))⟩
def f83G:Gm:=z1n
def f83GOk:GOk Tryz.prog f83G:=GOk.nil
def f83lE:z00:=⟨[],[],[],[],[]⟩
def f83s0(a:MT)(b c:Int):St:=z1k f83sig.ps (a,(b,(c,())))
def f83s1(a:Int):St:=z16 [(6,xi a)] [] []
def f83l1:z00:=⟨[6],[],[],[],[]⟩
def f83B:Nat->Option z00:=z17 [(1000000,f83l1)]
abbrev f83j{ρ:Type}(N n:Nat)(σ:St)(l:z00)(K:KT ρ):Option ρ:=z0p f83G tab f83B N (z2o 99 (z1q Tryz.f83) n) .n σ (z14 (some l) K)
def f83t0 N a b c (K:KT ρ):f83j N 1 (f83s0 a b c) f83lE K =
 z0m.Z0 N a b c (λd=>K .ret (f83s1 d)):=by kernel_rfl
def f83ok(h:z0m.Spec):z0a Tryz.prog 83 e83 :=
 okC Tryz.func83 z2q f83GOk (λN X K=>f83t0 N X.1 X.2.1 X.2.2.1 K) (by kernel_rfl) λX hb hp=>by
  obtain⟨a,b,c,_⟩:=X
  obtain⟨N,h⟩:=h a b c hb.1 hp
  exact⟨N,Eq.trans (by kernel_rfl) (h N (Nat.le_refl N))⟩
def e83ok:z0a Tryz.prog 83 e83:=f83ok z0m.ok
end Go.Fw
namespace Go.Fw
variable {ρ : Type}
open Go.Proofs
def zt3:Sig:=⟨[⟨.int .i64,false,false⟩,⟨.int .i64,false,false⟩],[⟨.int .i64,false,false⟩]⟩
def e143:z24:=⟨zt3,(some λX=>z2a.P X.1 X.2.1),λX=>((),((z2a.g X.1 X.2.1),()))⟩
def f143G:Gm:=z1n
def f143GOk:GOk Tryz.prog f143G:=GOk.nil
def f143lE:z00:=⟨[],[],[],[],[]⟩
def f143s0(a b:Int):St:=z1k zt3.ps (a,(b,()))
def zo3(a b:Int):St:=z16 [(0,xi a),(1,xi b)] [] []
def f143l1:z00:=⟨[0,1],[],[],[],[]⟩
def zkk(a:Int):St:=z16 [(0,xi a)] [] []
def zt4:z00:=⟨[0],[],[],[],[]⟩
def f143s3(a:Int):St:=z16 [(4,xi a)] [] []
def f143l3:z00:=⟨[4],[],[],[],[]⟩
def f143B:Nat->Option z00:=z17 [(0,zt4),(1000000,f143l3)]
abbrev f143j{ρ:Type}(N n:Nat)(σ:St)(l:z00)(K:KT ρ):Option ρ:=z0p f143G tab f143B N (z2o 99 (z1q Tryz.f143) n) .n σ (z14 (some l) K)
def f143t1 N a b (K:KT ρ):f143j N 2 (f143s0 a b) f143l1 K =
 z2a.Z1 N a b (λa b=>K .nrm (zo3 a b)):=by kernel_rfl
def f143t5 N a b (K:KT ρ):f143j N 17 (zo3 a b) f143l1 K =
 z2a.Z5 N a b (λa b=>K .nrm (zo3 a b)) (λa=>K (.exit 0) (zkk a)):=by kernel_rfl
def f143t4L N (K:KT ρ):=lp2 K (z2a.Z4L N (λa=>K (.exit 0) (zkk a))) (λa b k=>z2a.Z5 N a b k (λa=>K (.exit 0) (zkk a))) (λF a b=>f143t5 N a b _) (by kernel_rfl)
def f143t4 N a b (K:KT ρ):=vL (zo3 a b) (f143t4L N (jK zt4 K) N a b) (by kernel_rfl)
def f143t3 N a b (K:KT ρ):=vB 0 zt4 K (z2a.Z3 N a b (λa=>K .nrm (zkk a))) (f143t4 N a b _) (by kernel_rfl)
def f143t6 N a (K:KT ρ):f143j N 7 (zkk a) f143lE K =
 z2a.Z6 N a (λb=>K .ret (f143s3 b)):=by kernel_rfl
def f143t2 N a b (K:KT ρ):=vQ (λk=>z2a.Z3 N a b k) (f143t3 N a b _) (funext λa=>f143t6 N a K)
def f143t0 N a b (K:KT ρ):=vQ (λk=>z2a.Z1 N a b k) (f143t1 N a b _) (fx2 λa b=>f143t2 N a b K)
def f143ok(h:z2a.Spec):z0a Tryz.prog 143 e143 :=
 okC Tryz.func143 z2q f143GOk (λN X K=>f143t0 N X.1 X.2.1 K) (by kernel_rfl) λX hb hp=>by
  obtain⟨a,b,_⟩:=X
  obtain⟨N,h⟩:=h a b hp
  exact⟨N,Eq.trans (by kernel_rfl) (h N (Nat.le_refl N))⟩
def e143ok:z0a Tryz.prog 143 e143:=f143ok z2a.ok
end Go.Fw
namespace Go.Fw
variable {ρ : Type}
open Go.Proofs
def ztn:Sig:=⟨[⟨.pair (.int .i64) (.pair (.int .i64) (.sl 3 (.int .i64))),true,false⟩],[⟨.sl 3 (.int .i64),false,true⟩]⟩
def e103:z24:=⟨ztn,(some λX=>z01.P X.1),λX=>((),((z01.g X.1),()))⟩
def f103G:Gm:=z3m (z3m z1n 83 e83) 143 e143
def f103GOk:GOk Tryz.prog f103G:=((GOk.nil).add e83ok (by kernel_rfl)).add e143ok (by kernel_rfl)
def f103lE:z00:=⟨[],[],[],[],[]⟩
def f103s0(a:MT):St:=z1k ztn.ps (a,())
def f103s1(a b:Int)(c:LI):St:=z16 [(1,xb 1)] [(1,(27,[yi a,yi b,.sn 3 tI c none]))] []
def f103l1:z00:=⟨[1],[1],[],[],[]⟩
def f103s2(a b:LI)(c d:Int)(e:LI):St:=z16 [(1,xb 1),(3,xo 1000192),(4,xo 1000256)] [(1,(27,[yi c,yi d,.sn 3 tI e none]))] [(1000192,(⟨3,.int .i64,a,true,false⟩:Row)),(1000256,(⟨3,.int .i64,b,true,false⟩:Row))]
def f103l2:z00:=⟨[1,3,4],[1],[],[],[(⟨false,3,0⟩,1000192),(⟨false,4,0⟩,1000256)]⟩
def f103s3(a b c:LI)(d e:Int)(f:LI):St:=z16 [(1,xb 1),(3,xo 1000192),(4,xo 1000256),(5,xo 1000320)] [(1,(27,[yi d,yi e,.sn 3 tI f none]))] [(1000192,(⟨3,.int .i64,a,true,false⟩:Row)),(1000256,(⟨3,.int .i64,b,true,false⟩:Row)),(1000320,(⟨3,.int .i64,c,true,false⟩:Row))]
def f103l3:z00:=⟨[1,3,4,5],[1],[],[],[(⟨false,3,0⟩,1000192),(⟨false,4,0⟩,1000256),(⟨false,5,0⟩,1000320)]⟩
def z6n(a b c:LI)(d e f g:Int)(h:LI):St:=z16 [(1,xb 1),(3,xo 1000192),(4,xo 1000256),(5,xo 1000320),(34,xi d),(35,xi e)] [(1,(27,[yi f,yi g,.sn 3 tI h none]))] [(1000192,(⟨3,.int .i64,a,true,false⟩:Row)),(1000256,(⟨3,.int .i64,b,true,false⟩:Row)),(1000320,(⟨3,.int .i64,c,true,false⟩:Row))]
def zcv:z00:=⟨[1,3,4,5,34,35],[1],[],[],[(⟨false,3,0⟩,1000192),(⟨false,4,0⟩,1000256),(⟨false,5,0⟩,1000320)]⟩
def f103s5(a b c:LI)(d e:Int)(f:Bool)(g h:Int)(i:LI):St:=z16 [(1,xb 1),(3,xo 1000192),(4,xo 1000256),(5,xo 1000320),(34,xi d),(35,xi e),(36,xB f)] [(1,(27,[yi g,yi h,.sn 3 tI i none]))] [(1000192,(⟨3,.int .i64,a,true,false⟩:Row)),(1000256,(⟨3,.int .i64,b,true,false⟩:Row)),(1000320,(⟨3,.int .i64,c,true,false⟩:Row))]
def f103l5:z00:=⟨[1,3,4,5,34,35,36],[1],[],[],[(⟨false,3,0⟩,1000192),(⟨false,4,0⟩,1000256),(⟨false,5,0⟩,1000320)]⟩
def zga(a b c:LI)(d e f g h:Int)(i:LI):St:=z16 [(1,xb 1),(3,xo 1000192),(4,xo 1000256),(5,xo 1000320),(6,xi d),(34,xi e),(35,xi f)] [(1,(27,[yi g,yi h,.sn 3 tI i none]))] [(1000192,(⟨3,.int .i64,a,true,false⟩:Row)),(1000256,(⟨3,.int .i64,b,true,false⟩:Row)),(1000320,(⟨3,.int .i64,c,true,false⟩:Row))]
def ztr:z00:=⟨[1,3,4,5,6,34,35],[1],[],[],[(⟨false,3,0⟩,1000192),(⟨false,4,0⟩,1000256),(⟨false,5,0⟩,1000320)]⟩
def zct(a b c d:LI)(e f g h:Int)(i:LI):St:=z16 [(1,xb 1),(3,xo 1000192),(4,xo 1000256),(5,xo 1000320),(7,xo 1000448),(34,xi e),(35,xi f)] [(1,(27,[yi g,yi h,.sn 3 tI i none]))] [(1000192,(⟨3,.int .i64,a,true,false⟩:Row)),(1000256,(⟨3,.int .i64,b,true,false⟩:Row)),(1000320,(⟨3,.int .i64,c,true,false⟩:Row)),(1000448,(⟨3,.int .i64,d,true,false⟩:Row))]
def zob:z00:=⟨[1,3,4,5,7,34,35],[1],[],[],[(⟨false,3,0⟩,1000192),(⟨false,4,0⟩,1000256),(⟨false,5,0⟩,1000320),(⟨false,7,0⟩,1000448)]⟩
def z7b(a b c d:LI)(e f g h i:Int)(j:LI):St:=z16 [(1,xb 1),(3,xo 1000192),(4,xo 1000256),(5,xo 1000320),(7,xo 1000448),(8,xi e),(34,xi f),(35,xi g)] [(1,(27,[yi h,yi i,.sn 3 tI j none]))] [(1000192,(⟨3,.int .i64,a,true,false⟩:Row)),(1000256,(⟨3,.int .i64,b,true,false⟩:Row)),(1000320,(⟨3,.int .i64,c,true,false⟩:Row)),(1000448,(⟨3,.int .i64,d,true,false⟩:Row))]
def zcu:z00:=⟨[1,3,4,5,7,8,34,35],[1],[],[],[(⟨false,3,0⟩,1000192),(⟨false,4,0⟩,1000256),(⟨false,5,0⟩,1000320),(⟨false,7,0⟩,1000448)]⟩
def f103s9(a b c d:LI)(e f g h i j:Int)(l:LI):St:=z16 [(1,xb 1),(3,xo 1000192),(4,xo 1000256),(5,xo 1000320),(7,xo 1000448),(8,xi e),(9,xi f),(34,xi g),(35,xi h)] [(1,(27,[yi i,yi j,.sn 3 tI l none]))] [(1000192,(⟨3,.int .i64,a,true,false⟩:Row)),(1000256,(⟨3,.int .i64,b,true,false⟩:Row)),(1000320,(⟨3,.int .i64,c,true,false⟩:Row)),(1000448,(⟨3,.int .i64,d,true,false⟩:Row))]
def f103l9:z00:=⟨[1,3,4,5,7,8,9,34,35],[1],[],[],[(⟨false,3,0⟩,1000192),(⟨false,4,0⟩,1000256),(⟨false,5,0⟩,1000320),(⟨false,7,0⟩,1000448)]⟩
def z6e(a b c d:LI)(e f g h i j l m:Int)(o:LI):St:=z16 [(1,xb 1),(3,xo 1000192),(4,xo 1000256),(5,xo 1000320),(7,xo 1000448),(8,xi e),(9,xi f),(34,xi g),(35,xi h),(62,xi i),(63,xi j)] [(1,(27,[yi l,yi m,.sn 3 tI o none]))] [(1000192,(⟨3,.int .i64,a,true,false⟩:Row)),(1000256,(⟨3,.int .i64,b,true,false⟩:Row)),(1000320,(⟨3,.int .i64,c,true,false⟩:Row)),(1000448,(⟨3,.int .i64,d,true,false⟩:Row))]
def zc3:z00:=⟨[1,3,4,5,7,8,9,34,35,62,63],[1],[],[],[(⟨false,3,0⟩,1000192),(⟨false,4,0⟩,1000256),(⟨false,5,0⟩,1000320),(⟨false,7,0⟩,1000448)]⟩
def ztq(a b c d:LI)(e f g h i j:Int)(l:Bool)(m o:Int)(p:LI):St:=z16 [(1,xb 1),(3,xo 1000192),(4,xo 1000256),(5,xo 1000320),(7,xo 1000448),(8,xi e),(9,xi f),(34,xi g),(35,xi h),(62,xi i),(63,xi j),(64,xB l)] [(1,(27,[yi m,yi o,.sn 3 tI p none]))] [(1000192,(⟨3,.int .i64,a,true,false⟩:Row)),(1000256,(⟨3,.int .i64,b,true,false⟩:Row)),(1000320,(⟨3,.int .i64,c,true,false⟩:Row)),(1000448,(⟨3,.int .i64,d,true,false⟩:Row))]
def f103l11:z00:=⟨[1,3,4,5,7,8,9,34,35,62,63,64],[1],[],[],[(⟨false,3,0⟩,1000192),(⟨false,4,0⟩,1000256),(⟨false,5,0⟩,1000320),(⟨false,7,0⟩,1000448)]⟩
def ztp(a b c d:LI)(e f g h i j l m o:Int)(p:LI):St:=z16 [(1,xb 1),(3,xo 1000192),(4,xo 1000256),(5,xo 1000320),(7,xo 1000448),(8,xi e),(9,xi f),(10,xi g),(34,xi h),(35,xi i),(62,xi j),(63,xi l)] [(1,(27,[yi m,yi o,.sn 3 tI p none]))] [(1000192,(⟨3,.int .i64,a,true,false⟩:Row)),(1000256,(⟨3,.int .i64,b,true,false⟩:Row)),(1000320,(⟨3,.int .i64,c,true,false⟩:Row)),(1000448,(⟨3,.int .i64,d,true,false⟩:Row))]
def f103l12:z00:=⟨[1,3,4,5,7,8,9,10,34,35,62,63],[1],[],[],[(⟨false,3,0⟩,1000192),(⟨false,4,0⟩,1000256),(⟨false,5,0⟩,1000320),(⟨false,7,0⟩,1000448)]⟩
def zhu(a b c d:LI)(e f g h i j l m o p q:Int)(r:LI):St:=z16 [(1,xb 1),(3,xo 1000192),(4,xo 1000256),(5,xo 1000320),(7,xo 1000448),(8,xi e),(9,xi f),(10,xi g),(11,xi h),(12,xi i),(34,xi j),(35,xi l),(62,xi m),(63,xi o)] [(1,(27,[yi p,yi q,.sn 3 tI r none]))] [(1000192,(⟨3,.int .i64,a,true,false⟩:Row)),(1000256,(⟨3,.int .i64,b,true,false⟩:Row)),(1000320,(⟨3,.int .i64,c,true,false⟩:Row)),(1000448,(⟨3,.int .i64,d,true,false⟩:Row))]
def ztv:z00:=⟨[1,3,4,5,7,8,9,10,11,12,34,35,62,63],[1],[],[],[(⟨false,3,0⟩,1000192),(⟨false,4,0⟩,1000256),(⟨false,5,0⟩,1000320),(⟨false,7,0⟩,1000448)]⟩
def zaa(a b c d:LI)(e f g h i:Int)(j:LI):St:=z16 [(1,xb 1),(3,xo 1000192),(4,xo 1000256),(5,xo 1000320),(7,xo 1000448),(16,xi e),(34,xi f),(35,xi g)] [(1,(27,[yi h,yi i,.sn 3 tI j none]))] [(1000192,(⟨3,.int .i64,a,true,false⟩:Row)),(1000256,(⟨3,.int .i64,b,true,false⟩:Row)),(1000320,(⟨3,.int .i64,c,true,false⟩:Row)),(1000448,(⟨3,.int .i64,d,true,false⟩:Row))]
def zhv:z00:=⟨[1,3,4,5,7,16,34,35],[1],[],[],[(⟨false,3,0⟩,1000192),(⟨false,4,0⟩,1000256),(⟨false,5,0⟩,1000320),(⟨false,7,0⟩,1000448)]⟩
def zht(a b c d:LI)(e f g h i j l:Int)(m:LI):St:=z16 [(1,xb 1),(3,xo 1000192),(4,xo 1000256),(5,xo 1000320),(7,xo 1000448),(16,xi e),(34,xi f),(35,xi g),(158,xo 1000448),(159,xi h),(160,xi i)] [(1,(27,[yi j,yi l,.sn 3 tI m none]))] [(1000192,(⟨3,.int .i64,a,true,false⟩:Row)),(1000256,(⟨3,.int .i64,b,true,false⟩:Row)),(1000320,(⟨3,.int .i64,c,true,false⟩:Row)),(1000448,(⟨3,.int .i64,d,true,false⟩:Row))]
def ztu:z00:=⟨[1,3,4,5,7,16,34,35,158,159,160],[1],[],[],[(⟨false,3,0⟩,1000192),(⟨false,4,0⟩,1000256),(⟨false,5,0⟩,1000320),(⟨false,7,0⟩,1000448)]⟩
def zto(a b c d:LI)(e f g h i j:Int)(l:LI):St:=z16 [(1,xb 1),(3,xo 1000192),(4,xo 1000256),(5,xo 1000320),(7,xo 1000448),(16,xi e),(19,xi f),(34,xi g),(35,xi h)] [(1,(27,[yi i,yi j,.sn 3 tI l none]))] [(1000192,(⟨3,.int .i64,a,true,false⟩:Row)),(1000256,(⟨3,.int .i64,b,true,false⟩:Row)),(1000320,(⟨3,.int .i64,c,true,false⟩:Row)),(1000448,(⟨3,.int .i64,d,true,false⟩:Row))]
def f103l16:z00:=⟨[1,3,4,5,7,16,19,34,35],[1],[],[],[(⟨false,3,0⟩,1000192),(⟨false,4,0⟩,1000256),(⟨false,5,0⟩,1000320),(⟨false,7,0⟩,1000448)]⟩
def zhs(a b c d:LI)(e f g h i j l m:Int)(o:LI):St:=z16 [(1,xb 1),(3,xo 1000192),(4,xo 1000256),(5,xo 1000320),(7,xo 1000448),(16,xi e),(19,xi f),(34,xi g),(35,xi h),(178,xo 1000448),(179,xi i),(180,xi j)] [(1,(27,[yi l,yi m,.sn 3 tI o none]))] [(1000192,(⟨3,.int .i64,a,true,false⟩:Row)),(1000256,(⟨3,.int .i64,b,true,false⟩:Row)),(1000320,(⟨3,.int .i64,c,true,false⟩:Row)),(1000448,(⟨3,.int .i64,d,true,false⟩:Row))]
def ztt:z00:=⟨[1,3,4,5,7,16,19,34,35,178,179,180],[1],[],[],[(⟨false,3,0⟩,1000192),(⟨false,4,0⟩,1000256),(⟨false,5,0⟩,1000320),(⟨false,7,0⟩,1000448)]⟩
def zei(a b c d:LI)(e f g h i:Int)(j:LI):St:=z16 [(1,xb 1),(3,xo 1000192),(4,xo 1000256),(5,xo 1000320),(7,xo 1000448),(19,xi e),(34,xi f),(35,xi g)] [(1,(27,[yi h,yi i,.sn 3 tI j none]))] [(1000192,(⟨3,.int .i64,a,true,false⟩:Row)),(1000256,(⟨3,.int .i64,b,true,false⟩:Row)),(1000320,(⟨3,.int .i64,c,true,false⟩:Row)),(1000448,(⟨3,.int .i64,d,true,false⟩:Row))]
def zm6:z00:=⟨[1,3,4,5,7,19,34,35],[1],[],[],[(⟨false,3,0⟩,1000192),(⟨false,4,0⟩,1000256),(⟨false,5,0⟩,1000320),(⟨false,7,0⟩,1000448)]⟩
def zhr(a b c d:LI)(e f g h i j l:Int)(m:LI):St:=z16 [(1,xb 1),(3,xo 1000192),(4,xo 1000256),(5,xo 1000320),(19,xi e),(34,xi f),(35,xi g),(205,xo 1013120),(206,xi h),(207,xi i)] [(1,(27,[yi j,yi l,.sn 3 tI m none]))] [(1000192,(⟨3,.int .i64,a,true,false⟩:Row)),(1000256,(⟨3,.int .i64,b,true,false⟩:Row)),(1000320,(⟨3,.int .i64,c,true,false⟩:Row)),(1013120,(⟨3,.int .i64,d,true,false⟩:Row))]
def zts:z00:=⟨[1,3,4,5,19,34,35,205,206,207],[1],[],[],[(⟨false,3,0⟩,1000192),(⟨false,4,0⟩,1000256),(⟨false,5,0⟩,1000320),(⟨false,205,0⟩,1013120)]⟩
def zc2(a:LI):St:=z16 [(5,xo 1000320)] [] [(1000320,(⟨3,.int .i64,a,true,false⟩:Row))]
def zm5:z00:=⟨[5],[],[],[],[(⟨false,5,0⟩,1000320)]⟩
def z3x(a:LI):St:=z16 [(2,xo 1001000128)] [] [(1001000128,(⟨3,.int .i64,a,true,true⟩:Row))]
def f103l21:z00:=⟨[2],[],[⟨⟨false,2,0⟩,30000000,3,.int .i64,true⟩],[],[(⟨false,2,0⟩,1001000128)]⟩
def f103B:Nat->Option z00:=z17 [(5,zc3),(4,zcu),(3,zcu),(2,zob),(6,zhv),(8,zm6),(10,zcv),(1,zcv),(0,zm5),(1000000,f103l21)]
abbrev z4j{ρ:Type}(N n:Nat)(σ:St)(l:z00)(K:KT ρ):Option ρ:=z0p f103G tab f103B N (z2o 99 (z1q Tryz.f103) n) .n σ (z14 (some l) K)
def f103t1 N a (K:KT ρ):z4j N 2 (f103s0 a) f103l1 K =
 z01.Z1 N a (λb c d=>K .nrm (f103s1 b c d)):=by kernel_rfl
def f103t3 N a b c (K:KT ρ):z4j N 5 (f103s1 a b c) f103l2 K =
 z01.Z3 N a b c (λd e a b c=>K .nrm (f103s2 d e a b c)):=by kernel_rfl
def f103t5 N a b c d e (K:KT ρ):z4j N 11 (f103s2 a b c d e) f103l3 K =
 z01.Z5 N a b c d e (λa b f c d e=>K .nrm (f103s3 a b f c d e)):=by kernel_rfl
def f103t8 N a b c d e f (K:KT ρ):z4j N 39 (f103s3 a b c d e f) zcv K =
 z01.Z8 N a b c d e f (λa b c g h d e f=>K .nrm (z6n a b c g h d e f)):=by kernel_rfl
def f103t12 N a b c d e f g h (K:KT ρ):z4j N 279 (z6n a b c d e f g h) f103l5 K =
 z01.Z12 N a b c d e f g h (λa b c d e i f g h=>K .nrm (f103s5 a b c d e i f g h)):=by kernel_rfl
def f103t14 N b c a d e i f g h (K:KT ρ):z4j N 663 (f103s5 b c a d e i f g h) zcv K =
 z01.Z14 N b c a d e i f g h (λb c a d e f g h=>K .nrm (z6n b c a d e f g h)) (λa=>K (.exit 0) (zc2 a)):=by kernel_rfl
def f103t18 N a b c d e f g h (K:KT ρ):z4j N 4503 (z6n a b c d e f g h) ztr K =
 z01.Z18 N a b c d e f g h (λa b c i d e f g h=>K .nrm (zga a b c i d e f g h)):=by kernel_rfl
def f103t20 N a b c i d e f g h (K:KT ρ):z4j N 10647 (zga a b c i d e f g h) ztr K =
 z01.Z20 N a b c i d e f g h (λa b c i d e f g h=>K .nrm (zga a b c i d e f g h)) (λa b c d e f g h=>K (.exit 1) (z6n a b c d e f g h)):=by kernel_rfl
def f103t22 N a b c d e f g h i (K:KT ρ):z4j N 22935 (zga a b c d e f g h i) ztr K =
 z01.Z22 N a b c d e f g h i (λa b c d e f g h i=>K .nrm (zga a b c d e f g h i)):=by kernel_rfl
def f103t24 N a b c i d e f g h (K:KT ρ):z4j N 47511 (zga a b c i d e f g h) zob K =
 z01.Z24 N a b c i d e f g h (λa b c j d e f g h=>K .nrm (zct a b c j d e f g h)):=by kernel_rfl
def f103t27 N a b c d e f g h i (K:KT ρ):z4j N 162199 (zct a b c d e f g h i) zcu K =
 z01.Z27 N a b c d e f g h i (λa b c d j e f g h i=>K .nrm (z7b a b c d j e f g h i)):=by kernel_rfl
def f103t31 N a b c d j e f g h i (K:KT ρ):z4j N 1145239 (z7b a b c d j e f g h i) zcu K =
 z01.Z31 N a b c d j e f g h i (λa b c d j e f g h i=>K .nrm (z7b a b c d j e f g h i)) (λa b c d e f g h i=>K (.exit 2) (zct a b c d e f g h i)):=by kernel_rfl
def f103t35 N a b c d e f g h i j (K:KT ρ):z4j N 9009559 (z7b a b c d e f g h i j) f103l9 K =
 z01.Z35 N a b c d e f g h i j (λa b c d e l f g h i j=>K .nrm (f103s9 a b c d e l f g h i j)):=by kernel_rfl
def f103t37 N a b c d e f g h i j l (K:KT ρ):z4j N 21592471 (f103s9 a b c d e f g h i j l) zc3 K =
 z01.Z37 N a b c d e f g h i j l (λa b c d e f g h m o i j l=>K .nrm (z6e a b c d e f g h m o i j l)):=by kernel_rfl
def f103t41 N a b c d e f g h i j l m o (K:KT ρ):z4j N 147421591 (z6e a b c d e f g h i j l m o) f103l11 K =
 z01.Z41 N a b c d e f g h i j l m o (λa b c d e f g h i j p l m o=>K .nrm (ztq a b c d e f g h i j p l m o)):=by kernel_rfl
def f103t43 N a b c d e l f g m o p h i j (K:KT ρ):z4j N 348748183 (ztq a b c d e l f g m o p h i j) zc3 K =
 z01.Z43 N a b c d e l f g m o p h i j (λa b c d e l f g m o h i j=>K .nrm (z6e a b c d e l f g m o h i j)) (λa b c d e f g h i j=>K (.exit 4) (z7b a b c d e f g h i j)):=by kernel_rfl
def f103t47 N a b c d e f g h i j l m o (K:KT ρ):z4j N 2362014103 (z6e a b c d e f g h i j l m o) f103l12 K =
 z01.Z47 N a b c d e f g h i j l m o (λa b c d e f p g h i j l m o=>K .nrm (ztp a b c d e f p g h i j l m o)):=by kernel_rfl
def f103t49 N a b c d e f g h i j l m o p (K:KT ρ):z4j N 5583239575 (ztp a b c d e f g h i j l m o p) ztv K =
 z01.Z49 N a b c d e f g h i j l m o p (λa b c d e f g q r h i j l m o p=>K .nrm (zhu a b c d e f g q r h i j l m o p)):=by kernel_rfl
def f103t51 N a b c d e f p q r g h i j l m o (K:KT ρ):z4j N 12025690519 (zhu a b c d e f p q r g h i j l m o) ztv K =
 z01.Z51 N a b c d e f p q r g h i j l m o (λa b c d e f p q r g h i j l m o=>K .nrm (zhu a b c d e f p q r g h i j l m o)) (λa b c d e f g h i j l m o=>K (.exit 5) (z6e a b c d e f g h i j l m o)):=by kernel_rfl
def f103t52 N a b c d e f p q r g h i j l m o (K:KT ρ):z4j N 16320657815 (zhu a b c d e f p q r g h i j l m o) zc3 K =
 z01.Z52 N a b c d e f p q r g h i j l m o (λa b c d e f g h i j l m o=>K .nrm (z6e a b c d e f g h i j l m o)) (λs=>K .ret (z3x s)):=by kernel_rfl
def f103t50 N a b c d e f p q r g h i j l m o (K:KT ρ):=vQ (λk=>z01.Z51 N a b c d e f p q r g h i j l m o k (λa b c d e f g h i j l m o=>K (.exit 5) (z6e a b c d e f g h i j l m o))) (f103t51 N a b c d e f p q r g h i j l m o _) (fx16 λa b c d e f p q r g h i j l m o=>f103t52 N a b c d e f p q r g h i j l m o K)
def f103t48 N a b c d e f g h i j l m o p (K:KT ρ):=vQ (λk=>z01.Z49 N a b c d e f g h i j l m o p k) (f103t49 N a b c d e f g h i j l m o p _) (fx16 λa b c d e f g q r h i j l m o p=>f103t50 N a b c d e f g q r h i j l m o p K)
def f103t46 N a b c d e f g h i j l m o (K:KT ρ):=vQ (λk=>z01.Z47 N a b c d e f g h i j l m o k) (f103t47 N a b c d e f g h i j l m o _) (fx14 λa b c d e f p g h i j l m o=>f103t48 N a b c d e f p g h i j l m o K)
def f103t45 N a b c d e f g h i j l m o (K:KT ρ):=vB 5 zc3 K (z01.Z45 N a b c d e f g h i j l m o (λa b c d e f g h i j l m o=>K .nrm (z6e a b c d e f g h i j l m o)) (λp=>K .ret (z3x p))) (f103t46 N a b c d e f g h i j l m o _) (by kernel_rfl)
def f103t53 N a b c d e f g h i j l m o (K:KT ρ):z4j N 1019836823 (z6e a b c d e f g h i j l m o) zc3 K =
 z01.Z53 N a b c d e f g h i j l m o (λa b c d e f g h i j l m o=>K .nrm (z6e a b c d e f g h i j l m o)):=by kernel_rfl
def f103t44 N a b c d e f g h i j l m o (K:KT ρ):=vQ (λk=>z01.Z45 N a b c d e f g h i j l m o k (λp=>K .ret (z3x p))) (f103t45 N a b c d e f g h i j l m o _) (fx13 λa b c d e f g h i j l m o=>f103t53 N a b c d e f g h i j l m o K)
def f103t42 N a b c d e l f g m o p h i j (K:KT ρ):=vQ (λk=>z01.Z43 N a b c d e l f g m o p h i j k (λa b c d e f g h i j=>K (.exit 4) (z7b a b c d e f g h i j))) (f103t43 N a b c d e l f g m o p h i j _) (fx13 λa b c d e l f g m o h i j=>f103t44 N a b c d e l f g m o h i j K)
def f103t40 N a b c d e f g h i j l m o (K:KT ρ):=vQ (λk=>z01.Z41 N a b c d e f g h i j l m o k) (f103t41 N a b c d e f g h i j l m o _) (fx14 λa b c d e f g h i j p l m o=>f103t42 N a b c d e f g h i j p l m o K)
def f103t39L N (K:KT ρ):=lp13 K (z01.Z39L N (λa b c d e f g h i j=>K (.exit 4) (z7b a b c d e f g h i j)) (λl=>K .ret (z3x l))) (λa b c d e m f g o p h i j k=>z01.Z40 N a b c d e m f g o p h i j k (λa b c d e f g h i j=>K (.exit 4) (z7b a b c d e f g h i j)) (λl=>K .ret (z3x l))) (λF a b c d e m f g o p h i j=>f103t40 N a b c d e m f g o p h i j _) (by kernel_rfl)
def f103t39 N a b c d e f g h i j l m o (K:KT ρ):=vL (z6e a b c d e f g h i j l m o) (f103t39L N (jK zcu K) N a b c d e f g h i j l m o) (by kernel_rfl)
def f103t38 N a b c d e l f g m o h i j (K:KT ρ):=vB 4 zcu K (z01.Z38 N a b c d e l f g m o h i j (λa b c d e f g h i j=>K .nrm (z7b a b c d e f g h i j)) (λp=>K .ret (z3x p))) (f103t39 N a b c d e l f g m o h i j _) (by kernel_rfl)
def f103t36 N a b c d e f g h i j l (K:KT ρ):=vQ (λk=>z01.Z37 N a b c d e f g h i j l k) (f103t37 N a b c d e f g h i j l _) (fx13 λa b c d e f g h m o i j l=>f103t38 N a b c d e f g h m o i j l K)
def f103t34 N a b c d e f g h i j (K:KT ρ):=vQ (λk=>z01.Z35 N a b c d e f g h i j k) (f103t35 N a b c d e f g h i j _) (zlx λa b c d e l f g h i j=>f103t36 N a b c d e l f g h i j K)
def f103t33 N a b c d e f g h i j (K:KT ρ):=vB 3 zcu K (z01.Z33 N a b c d e f g h i j (λa b c d e f g h i j=>K .nrm (z7b a b c d e f g h i j)) (λl=>K .ret (z3x l))) (f103t34 N a b c d e f g h i j _) (by kernel_rfl)
def f103t54 N a b c d e f g h i j (K:KT ρ):z4j N 3766679 (z7b a b c d e f g h i j) zcu K =
 z01.Z54 N a b c d e f g h i j (λa b c d e f g h i j=>K .nrm (z7b a b c d e f g h i j)):=by kernel_rfl
def f103t32 N a b c d e f g h i j (K:KT ρ):=vQ (λk=>z01.Z33 N a b c d e f g h i j k (λl=>K .ret (z3x l))) (f103t33 N a b c d e f g h i j _) (zf3 λa b c d e f g h i j=>f103t54 N a b c d e f g h i j K)
def f103t30 N a b c d j e f g h i (K:KT ρ):=vQ (λk=>z01.Z31 N a b c d j e f g h i k (λa b c d e f g h i=>K (.exit 2) (zct a b c d e f g h i))) (f103t31 N a b c d j e f g h i _) (zf3 λa b c d j e f g h i=>f103t32 N a b c d j e f g h i K)
def f103t29L N (K:KT ρ):=lp10 K (z01.Z29L N (λa b c d e f g h i=>K (.exit 2) (zct a b c d e f g h i)) (λj=>K .ret (z3x j))) (λa b c d l e f g h i k=>z01.Z30 N a b c d l e f g h i k (λa b c d e f g h i=>K (.exit 2) (zct a b c d e f g h i)) (λj=>K .ret (z3x j))) (λF a b c d l e f g h i=>f103t30 N a b c d l e f g h i _) (by kernel_rfl)
def f103t29 N a b c d e f g h i j (K:KT ρ):=vL (z7b a b c d e f g h i j) (f103t29L N (jK zob K) N a b c d e f g h i j) (by kernel_rfl)
def f103t28 N a b c d j e f g h i (K:KT ρ):=vB 2 zob K (z01.Z28 N a b c d j e f g h i (λa b c d e f g h i=>K .nrm (zct a b c d e f g h i)) (λl=>K .ret (z3x l))) (f103t29 N a b c d j e f g h i _) (by kernel_rfl)
def f103t26 N a b c d e f g h i (K:KT ρ):=vQ (λk=>z01.Z27 N a b c d e f g h i k) (f103t27 N a b c d e f g h i _) (zf3 λa b c d j e f g h i=>f103t28 N a b c d j e f g h i K)
def f103t56 N a b c d e f g h i (K:KT ρ):z4j N 194967 (zct a b c d e f g h i) zhv K =
 z01.Z56 N a b c d e f g h i (λa b c d j e f g h i=>K .nrm (zaa a b c d j e f g h i)):=by kernel_rfl
def f103t59 N a b c d e f g h i j (K:KT ρ):z4j N 653719 (zaa a b c d e f g h i j) ztu K =
 z01.Z59 N a b c d e f g h i j (λa b c d e f g l m h i j=>K .nrm (zht a b c d e f g l m h i j)):=by kernel_rfl
def f103t62 N a b c d e f g l m h i j (K:KT ρ):z4j N 2488727 (zht a b c d e f g l m h i j) ztu K =
 z01.Z62 N a b c d e f g l m h i j (λa b c d e f g l m h i j=>K .nrm (zht a b c d e f g l m h i j)) (λa b c d e f g h i j=>K (.exit 6) (zaa a b c d e f g h i j)):=by kernel_rfl
def f103t61L N (K:KT ρ):=lp12 K (z01.Z61L N (λa b c d e f g h i j=>K (.exit 6) (zaa a b c d e f g h i j))) (λa b c d e f g l m h i j k=>z01.Z62 N a b c d e f g l m h i j k (λa b c d e f g h i j=>K (.exit 6) (zaa a b c d e f g h i j))) (λF a b c d e f g l m h i j=>f103t62 N a b c d e f g l m h i j _) (by kernel_rfl)
def f103t61 N a b c d e f g h i j l m (K:KT ρ):=vL (zht a b c d e f g h i j l m) (f103t61L N (jK zhv K) N a b c d e f g h i j l m) (by kernel_rfl)
def f103t60 N a b c d e f g l m h i j (K:KT ρ):=vB 6 zhv K (z01.Z60 N a b c d e f g l m h i j (λa b c d e f g h i j=>K .nrm (zaa a b c d e f g h i j))) (f103t61 N a b c d e f g l m h i j _) (by kernel_rfl)
def f103t58 N a b c d e f g h i j (K:KT ρ):=vQ (λk=>z01.Z59 N a b c d e f g h i j k) (f103t59 N a b c d e f g h i j _) (fx12 λa b c d e f g l m h i j=>f103t60 N a b c d e f g l m h i j K)
def f103t64 N a b c d e f g h i j (K:KT ρ):z4j N 784791 (zaa a b c d e f g h i j) f103l16 K =
 z01.Z64 N a b c d e f g h i j (λa b c d e l f g h i j=>K .nrm (zto a b c d e l f g h i j)):=by kernel_rfl
def f103t67 N a b c d e f g h i j l (K:KT ρ):z4j N 2619799 (zto a b c d e f g h i j l) ztt K =
 z01.Z67 N a b c d e f g h i j l (λa b c d e f g h m o i j l=>K .nrm (zhs a b c d e f g h m o i j l)):=by kernel_rfl
def f103t70 N a b c d l e f g m o h i j (K:KT ρ):z4j N 9959831 (zhs a b c d l e f g m o h i j) ztt K =
 z01.Z70 N a b c d l e f g m o h i j (λa b c d l e f g m o h i j=>K .nrm (zhs a b c d l e f g m o h i j)) (λa b c d e f g h i j=>K (.exit 8) (zei a b c d e f g h i j)):=by kernel_rfl
def f103t69L N (K:KT ρ):=lp13 K (z01.Z69L N (λa b c d e f g h i j=>K (.exit 8) (zei a b c d e f g h i j))) (λa b c d l e f g m o h i j k=>z01.Z70 N a b c d l e f g m o h i j k (λa b c d e f g h i j=>K (.exit 8) (zei a b c d e f g h i j))) (λF a b c d l e f g m o h i j=>f103t70 N a b c d l e f g m o h i j _) (by kernel_rfl)
def f103t69 N a b c d e f g h i j l m o (K:KT ρ):=vL (zhs a b c d e f g h i j l m o) (f103t69L N (jK zm6 K) N a b c d e f g h i j l m o) (by kernel_rfl)
def f103t68 N a b c d l e f g m o h i j (K:KT ρ):=vB 8 zm6 K (z01.Z68 N a b c d l e f g m o h i j (λa b c d e f g h i j=>K .nrm (zei a b c d e f g h i j))) (f103t69 N a b c d l e f g m o h i j _) (by kernel_rfl)
def f103t66 N a b c d e f g h i j l (K:KT ρ):=vQ (λk=>z01.Z67 N a b c d e f g h i j l k) (f103t67 N a b c d e f g h i j l _) (fx13 λa b c d e f g h m o i j l=>f103t68 N a b c d e f g h m o i j l K)
def f103t72 N a b c j d e f g h i (K:KT ρ):z4j N 3144087 (zei a b c j d e f g h i) zts K =
 z01.Z72 N a b c j d e f g h i (λa b c l d e f m o g h i=>K .nrm (zhr a b c l d e f m o g h i)):=by kernel_rfl
def f103t75 N a b c i j d e l m f g h (K:KT ρ):z4j N 10484119 (zhr a b c i j d e l m f g h) zts K =
 z01.Z75 N a b c i j d e l m f g h (λa b c i j d e l m f g h=>K .nrm (zhr a b c i j d e l m f g h)) (λa b c d e f g h=>K (.exit 10) (z6n a b c d e f g h)):=by kernel_rfl
def f103t74L N (K:KT ρ):=lp12 K (z01.Z74L N (λa b c d e f g h=>K (.exit 10) (z6n a b c d e f g h))) (λa b c i j d e l m f g h k=>z01.Z75 N a b c i j d e l m f g h k (λa b c d e f g h=>K (.exit 10) (z6n a b c d e f g h))) (λF a b c i j d e l m f g h=>f103t75 N a b c i j d e l m f g h _) (by kernel_rfl)
def f103t74 N a b c d e f g h i j l m (K:KT ρ):=vL (zhr a b c d e f g h i j l m) (f103t74L N (jK zcv K) N a b c d e f g h i j l m) (by kernel_rfl)
def f103t73 N a b c i j d e l m f g h (K:KT ρ):=vB 10 zcv K (z01.Z73 N a b c i j d e l m f g h (λa b c d e f g h=>K .nrm (z6n a b c d e f g h))) (f103t74 N a b c i j d e l m f g h _) (by kernel_rfl)
def f103t71 N a b c j d e f g h i (K:KT ρ):=vQ (λk=>z01.Z72 N a b c j d e f g h i k) (f103t72 N a b c j d e f g h i _) (fx12 λa b c l d e f m o g h i=>f103t73 N a b c l d e f m o g h i K)
def f103t65 N a b c d l e f g h i j (K:KT ρ):=vQ (λk=>z01.Z66 N a b c d l e f g h i j k) (f103t66 N a b c d l e f g h i j _) (zf3 λa b c d e f g h i j=>f103t71 N a b c d e f g h i j K)
def f103t63 N a b c d e f g h i j (K:KT ρ):=vQ (λk=>z01.Z64 N a b c d e f g h i j k) (f103t64 N a b c d e f g h i j _) (zlx λa b c d e l f g h i j=>f103t65 N a b c d e l f g h i j K)
def f103t57 N a b c d e f g h i j (K:KT ρ):=vQ (λk=>z01.Z58 N a b c d e f g h i j k) (f103t58 N a b c d e f g h i j _) (zf3 λa b c d e f g h i j=>f103t63 N a b c d e f g h i j K)
def f103t55 N a b c d e f g h i (K:KT ρ):=vQ (λk=>z01.Z56 N a b c d e f g h i k) (f103t56 N a b c d e f g h i _) (zf3 λa b c d j e f g h i=>f103t57 N a b c d j e f g h i K)
def f103t25 N a b c d e f g h i (K:KT ρ):=vQ (λk=>z01.Z26 N a b c d e f g h i k (λj=>K .ret (z3x j))) (f103t26 N a b c d e f g h i _) (fx9 λa b c d e f g h i=>f103t55 N a b c d e f g h i K)
def f103t23 N a b c i d e f g h (K:KT ρ):=vQ (λk=>z01.Z24 N a b c i d e f g h k) (f103t24 N a b c i d e f g h _) (fx9 λa b c j d e f g h=>f103t25 N a b c j d e f g h K)
def f103t21 N a b c d e f g h i (K:KT ρ):=vQ (λk=>z01.Z22 N a b c d e f g h i k) (f103t22 N a b c d e f g h i _) (fx9 λa b c d e f g h i=>f103t23 N a b c d e f g h i K)
def f103t19 N a b c i d e f g h (K:KT ρ):=vQ (λk=>z01.Z20 N a b c i d e f g h k (λa b c d e f g h=>K (.exit 1) (z6n a b c d e f g h))) (f103t20 N a b c i d e f g h _) (fx9 λa b c i d e f g h=>f103t21 N a b c i d e f g h K)
def f103t17 N a b c d e f g h (K:KT ρ):=vQ (λk=>z01.Z18 N a b c d e f g h k) (f103t18 N a b c d e f g h _) (fx9 λa b c i d e f g h=>f103t19 N a b c i d e f g h K)
def f103t16 N a b c d e f g h (K:KT ρ):=vB 1 zcv K (z01.Z16 N a b c d e f g h (λa b c d e f g h=>K .nrm (z6n a b c d e f g h)) (λi=>K .ret (z3x i))) (f103t17 N a b c d e f g h _) (by kernel_rfl)
def f103t76 N a b c d e f g h (K:KT ρ):z4j N 1943 (z6n a b c d e f g h) zcv K =
 z01.Z76 N a b c d e f g h (λa b c d e f g h=>K .nrm (z6n a b c d e f g h)):=by kernel_rfl
def f103t15 N a b c d e f g h (K:KT ρ):=vQ (λk=>z01.Z16 N a b c d e f g h k (λi=>K .ret (z3x i))) (f103t16 N a b c d e f g h _) (fx8 λa b c d e f g h=>f103t76 N a b c d e f g h K)
def f103t13 N b c a d e i f g h (K:KT ρ):=vQ (λk=>z01.Z14 N b c a d e i f g h k (λa=>K (.exit 0) (zc2 a))) (f103t14 N b c a d e i f g h _) (fx8 λb c a d e f g h=>f103t15 N b c a d e f g h K)
def f103t11 N a b c d e f g h (K:KT ρ):=vQ (λk=>z01.Z12 N a b c d e f g h k) (f103t12 N a b c d e f g h _) (fx9 λa b c d e i f g h=>f103t13 N a b c d e i f g h K)
def f103t10L N (K:KT ρ):=lp8 K (z01.Z10L N (λa=>K (.exit 0) (zc2 a)) (λb=>K .ret (z3x b))) (λc d a e f g h i k=>z01.Z11 N c d a e f g h i k (λa=>K (.exit 0) (zc2 a)) (λb=>K .ret (z3x b))) (λF c d a e f g h i=>f103t11 N c d a e f g h i _) (by kernel_rfl)
def f103t10 N a b c d e f g h (K:KT ρ):=vL (z6n a b c d e f g h) (f103t10L N (jK zm5 K) N a b c d e f g h) (by kernel_rfl)
def f103t9 N b c a d e f g h (K:KT ρ):=vB 0 zm5 K (z01.Z9 N b c a d e f g h (λa=>K .nrm (zc2 a)) (λi=>K .ret (z3x i))) (f103t10 N b c a d e f g h _) (by kernel_rfl)
def f103t7 N a b c d e f (K:KT ρ):=vQ (λk=>z01.Z8 N a b c d e f k) (f103t8 N a b c d e f _) (fx8 λa b c g h d e f=>f103t9 N a b c g h d e f K)
def f103t77 N a (K:KT ρ):z4j N 31 (zc2 a) f103lE K =
 z01.Z77 N a (λb=>K .ret (z3x b)):=by kernel_rfl
def f103t6 N b c a d e f (K:KT ρ):=vQ (λk=>z01.Z7 N b c a d e f k (λg=>K .ret (z3x g))) (f103t7 N b c a d e f _) (funext λa=>f103t77 N a K)
def f103t4 N a b c d e (K:KT ρ):=vQ (λk=>z01.Z5 N a b c d e k) (f103t5 N a b c d e _) (fx6 λa b f c d e=>f103t6 N a b f c d e K)
def f103t2 N a b c (K:KT ρ):=vQ (λk=>z01.Z3 N a b c k) (f103t3 N a b c _) (fx5 λd e a b c=>f103t4 N d e a b c K)
def f103t0 N a (K:KT ρ):=vQ (λk=>z01.Z1 N a k) (f103t1 N a _) (fx3 λb c d=>f103t2 N b c d K)
def f103ok(h:z01.Spec):z0a Tryz.prog 103 e103 :=
 okC Tryz.func103 z2q f103GOk (λN X K=>f103t0 N X.1 K) (by kernel_rfl) λX hb hp=>by
  obtain⟨a,_⟩:=X
  obtain⟨N,h⟩:=h a hb.1 hp
  exact⟨N,Eq.trans (by kernel_rfl) (h N (Nat.le_refl N))⟩
def e103ok:z0a Tryz.prog 103 e103:=f103ok z01.ok
end Go.Fw
namespace Go.Fw
variable {ρ : Type}
open Go.Proofs
def f63sig:Sig:=⟨[⟨.pair (.int .i64) (.pair (.int .i64) (.sl 3 (.int .i64))),true,false⟩],[⟨.bool,false,false⟩]⟩
def e63:z24:=⟨f63sig,none,λX=>((),((z1u.g X.1),()))⟩
def f63G:Gm:=z3m (z3m z1n 102 e102) 103 e103
def f63GOk:GOk Tryz.prog f63G:=((GOk.nil).add e102ok (by kernel_rfl)).add e103ok (by kernel_rfl)
def f63lE:z00:=⟨[],[],[],[],[]⟩
def f63s0(a:MT):St:=z1k f63sig.ps (a,())
def f63s1(a:Bool):St:=z16 [(2,xB a)] [] []
def f63l1:z00:=⟨[2],[],[],[],[]⟩
def f63B:Nat->Option z00:=z17 [(1000000,f63l1)]
abbrev f63j{ρ:Type}(N n:Nat)(σ:St)(l:z00)(K:KT ρ):Option ρ:=z0p f63G tab f63B N (z2o 99 (z1q Tryz.f63) n) .n σ (z14 (some l) K)
def f63t0 N a (K:KT ρ):f63j N 1 (f63s0 a) f63lE K =
 z1u.Z0 N a (λb=>K .ret (f63s1 b)):=by kernel_rfl
def f63ok(h:z1u.Spec):z0a Tryz.prog 63 e63 :=
 okC Tryz.func63 z2q f63GOk (λN X K=>f63t0 N X.1 K) (by kernel_rfl) λX hb hp=>by
  obtain⟨a,_⟩:=X
  obtain⟨N,h⟩:=h a hb.1
  exact⟨N,Eq.trans (by kernel_rfl) (h N (Nat.le_refl N))⟩
def e63ok:z0a Tryz.prog 63 e63:=f63ok z1u.ok
end Go.Fw
namespace Go.Fw
variable {ρ : Type}
open Go.Proofs
def f69sig:Sig:=⟨[⟨.sl 3 (.int .i64),false,false⟩],[⟨.sl 3 (.int .i64),false,false⟩]⟩
def e69:z24:=⟨f69sig,(some λX=>z0i.P X.1),λX=>((),((z0i.g X.1),()))⟩
def f69G:Gm:=z1n
def f69GOk:GOk Tryz.prog f69G:=GOk.nil
def f69lE:z00:=⟨[],[],[],[],[]⟩
def f69s0(a:LI):St:=z1k f69sig.ps (a,())
def f69s1(a:LI):St:=z16 [(2,xo 1000128)] [] [(1000128,(⟨3,.int .i64,a,true,false⟩:Row))]
def f69l1:z00:=⟨[2],[],[⟨⟨false,2,0⟩,30000000,3,.int .i64,true⟩],[],[(⟨false,2,0⟩,1000128)]⟩
def f69B:Nat->Option z00:=z17 [(1000000,f69l1)]
abbrev f69j{ρ:Type}(N n:Nat)(σ:St)(l:z00)(K:KT ρ):Option ρ:=z0p f69G tab f69B N (z2o 99 (z1q Tryz.f69) n) .n σ (z14 (some l) K)
def f69t0 N a (K:KT ρ):f69j N 1 (f69s0 a) f69lE K =
 z0i.Z0 N a (λb=>K .ret (f69s1 b)):=by kernel_rfl
def f69ok(h:z0i.Spec):z0a Tryz.prog 69 e69 :=
 okC Tryz.func69 z2q f69GOk (λN X K=>f69t0 N X.1 K) (by kernel_rfl) λX hb hp=>by
  obtain⟨a,_⟩:=X
  obtain⟨N,h⟩:=h a hb.1 hp
  exact⟨N,Eq.trans (by kernel_rfl) (h N (Nat.le_refl N))⟩
def e69ok:z0a Tryz.prog 69 e69:=f69ok z0i.ok
end Go.Fw
namespace Go.Fw
variable {ρ : Type}
open Go.Proofs
def f31sig:Sig:=⟨[⟨.pair (.int .i64) (.pair (.int .i64) (.sl 3 (.int .i64))),true,false⟩],[⟨.pair (.int .i64) (.pair (.int .i64) (.sl 3 (.int .i64))),true,false⟩]⟩
def e31:z24:=⟨f31sig,none,λX=>((),((z2t.g X.1),()))⟩
def f31G:Gm:=z3m (z3m z1n 63 e63) 69 e69
def f31GOk:GOk Tryz.prog f31G:=((GOk.nil).add e63ok (by kernel_rfl)).add e69ok (by kernel_rfl)
def f31lE:z00:=⟨[],[],[],[],[]⟩
def f31s0(a:MT):St:=z1k f31sig.ps (a,())
def f31s1(a:LI)(b c:Int):St:=z16 [(2,xb 2)] [(2,(27,[yi b,yi c,.own 20000130]))] [(20000130,(⟨3,.int .i64,a,true,false⟩:Row))]
def f31l1:z00:=⟨[2],[2],[⟨⟨true,2,2⟩,30000000,3,.int .i64,true⟩],[],[(⟨true,2,2⟩,20000130)]⟩
def f31B:Nat->Option z00:=z17 [(1000000,f31l1)]
abbrev f31j{ρ:Type}(N n:Nat)(σ:St)(l:z00)(K:KT ρ):Option ρ:=z0p f31G tab f31B N (z2o 99 (z1q Tryz.f31) n) .n σ (z14 (some l) K)
def f31t0 N a (K:KT ρ):f31j N 1 (f31s0 a) f31lE K =
 z2t.Z0 N a (λb c d=>K .ret (f31s1 b c d)):=by kernel_rfl
def f31ok(h:z2t.Spec):z0a Tryz.prog 31 e31 :=
 okC Tryz.func31 z2q f31GOk (λN X K=>f31t0 N X.1 K) (by kernel_rfl) λX hb hp=>by
  obtain⟨a,_⟩:=X
  obtain⟨N,h⟩:=h a hb.1
  exact⟨N,Eq.trans (by kernel_rfl) (h N (Nat.le_refl N))⟩
def e31ok:z0a Tryz.prog 31 e31:=f31ok z2t.ok
end Go.Fw
namespace Go.Fw
variable {ρ : Type}
open Go.Proofs
def f115rf:Rf:=none
def f115ps:List PT:=[⟨.sl 3 (.int .i64),false,true⟩,⟨.int .i64,false,false⟩,⟨.sl 3 (.int .i64),false,true⟩]
def f115rs:List PT:=[⟨.sl 3 (.int .i64),false,false⟩]
def e115:z7c:=⟨f115rf,f115ps,f115rs,(some λX=>z1a.P X.2.1 X.2.2.1 X.2.2.2.1),λX=>((),((z1a.g X.2.1 X.2.2.1 X.2.2.2.1),()))⟩
def f115ren:Go.Shelf.Ren:=⟨λ| 21=>115 | 27=>155 | 28=>156 | 35=>181 | 39=>194 | n=>n,λ| 22=>22 | 3=>3 | 4=>4 | 0=>0 | n=>n,λn=>n⟩
def f115lay:Lays2.n21 Tryz.prog f115ren:={ mixed:=(by kernel_rfl),f21:=Tryz.func115.trans (congrArg some (by kernel_rfl)),f27:=Tryz.func155.trans (congrArg some (by kernel_rfl)),f28:=Tryz.func156.trans (congrArg some (by kernel_rfl)),f35:=Tryz.func181.trans (congrArg some (by kernel_rfl)),f39:=Tryz.func194.trans (congrArg some (by kernel_rfl)),t0:=Tryz.underlying0,a0:=Tryz.isAgg0,z0:=Tryz.sizeOf0,v0:=Tryz.zeroValue0,t3:=Tryz.underlying3,a3:=Tryz.isAgg3,z3:=Tryz.sizeOf3,v3:=Tryz.zeroValue3,t4:=Tryz.underlying4,a4:=Tryz.isAgg4,z4:=Tryz.sizeOf4,v4:=Tryz.zeroValue4,t22:=Tryz.underlying22,a22:=Tryz.isAgg22,z22:=Tryz.sizeOf22,v22:=Tryz.zeroValue22,i3:=(by kernel_rfl) }
def f115ok(_:True):z3f Tryz.prog 115 e115:=zs7 f115lay
def e115ok:z3f Tryz.prog 115 e115:=f115ok z1a.ok
end Go.Fw
namespace Go.Fw
variable {ρ : Type}
open Go.Proofs
def f80sig:Sig:=⟨[⟨.int .i64,false,false⟩],[⟨.sl 22 (.sl 3 (.int .i64)),false,false⟩]⟩
def e80:z24:=⟨f80sig,(some λX=>z0h.P X.1),λX=>((),((z0h.g X.1),()))⟩
def f80G:Gm:=addM (z3m z1n 69 e69) 115 e115
def f80GOk:GOk Tryz.prog f80G:=((GOk.nil).add e69ok (by kernel_rfl)).addM e115ok (by kernel_rfl)
def f80lE:z00:=⟨[],[],[],[],[]⟩
def f80s0(a:Int):St:=z1k f80sig.ps (a,())
def f80s1(a:Int):St:=z16 [(0,xi a)] [] []
def f80l1:z00:=⟨[0],[],[],[],[]⟩
def f80s2(a:LL)(b:Int):St:=z16 [(0,xi b),(3,xo 1000192)] [] [(1000192,(⟨22,.sl 3 tI,a,true,false⟩:Row))]
def f80l2:z00:=⟨[0,3],[],[],[],[(⟨false,3,0⟩,1000192)]⟩
def zhl(a:LL)(b c:Int):St:=z16 [(0,xi b),(3,xo 1000192),(4,xi c)] [] [(1000192,(⟨22,.sl 3 tI,a,true,false⟩:Row))]
def zpt:z00:=⟨[0,3,4],[],[],[],[(⟨false,3,0⟩,1000192)]⟩
def f80s4(a:LL)(b d:Int):St:=z16 [(0,xi b),(3,xo 1000192),(4,xi d),(5,.c (.nil))] [] [(1000192,(⟨22,.sl 3 tI,a,true,false⟩:Row))]
def f80l4:z00:=⟨[0,3,4,5],[],[],[],[(⟨false,3,0⟩,1000192)]⟩
def f80s5(a:LL)(b d e f:Int):St:=z16 [(0,xi b),(4,xi d),(5,.c (.nil)),(15,xo 1000960),(16,xi e),(17,xi f)] [] [(1000960,(⟨22,.sl 3 tI,a,true,false⟩:Row))]
def f80l5:z00:=⟨[0,4,5,15,16,17],[],[],[],[(⟨false,15,0⟩,1000960)]⟩
def zco(a b:LL)(c d e f:Int):St:=z16 [(0,xi c),(4,xi d),(5,xo 1000320),(15,xo 1000960),(16,xi e),(17,xi f)] [] [(1000320,(⟨22,.sl 3 tI,a,true,false⟩:Row)),(1000960,(⟨22,.sl 3 tI,b,true,false⟩:Row))]
def zg4:z00:=⟨[0,4,5,15,16,17],[],[],[],[(⟨false,5,0⟩,1000320),(⟨false,15,0⟩,1000960)]⟩
def f80s11(a b:LL)(c d e f:Int):St:=z16 [(0,xi c),(4,xi d),(5,xo 1000320),(15,xo 1000960),(16,xi e),(17,xi f)] [] [(1000320,(⟨22,.sl 3 tI,a,true,false⟩:Row)),(1000960,(⟨22,.sl 3 tI,b,true,false⟩:Row))]
def f80l11:z00:=⟨[0,4,5,15,16,17],[],[⟨⟨false,5,0⟩,30000000,22,.sl 3 (.int .i64),true⟩],[],[(⟨false,5,0⟩,1000320),(⟨false,15,0⟩,1000960)]⟩
def f80s12(a b:LL)(c d e f:Int)(g:Bool):St:=z16 [(0,xi c),(4,xi d),(5,xo 1000320),(15,xo 1000960),(16,xi e),(17,xi f),(18,xB g)] [] [(1000320,(⟨22,.sl 3 tI,a,true,false⟩:Row)),(1000960,(⟨22,.sl 3 tI,b,true,false⟩:Row))]
def f80l12:z00:=⟨[0,4,5,15,16,17,18],[],[],[],[(⟨false,5,0⟩,1000320),(⟨false,15,0⟩,1000960)]⟩
def f80s13(a b:LL)(d e:Int)(f:LI)(g h:Int):St:=z16 [(0,xi d),(4,xi e),(5,xo 1000320),(7,.c (.sn 3 tI f (some 1000960))),(15,xo 1000960),(16,xi g),(17,xi h)] [] [(1000320,(⟨22,.sl 3 tI,a,true,false⟩:Row)),(1000960,(⟨22,.sl 3 tI,b,true,false⟩:Row))]
def f80l13:z00:=⟨[0,4,5,7,15,16,17],[],[],[],[(⟨false,5,0⟩,1000320),(⟨false,15,0⟩,1000960)]⟩
def znx(a b:LL)(d e:Int)(f:LI)(g h i:Int):St:=z16 [(0,xi d),(4,xi e),(5,xo 1000320),(7,.c (.sn 3 tI f (some 1000960))),(8,xi g),(15,xo 1000960),(16,xi h),(17,xi i)] [] [(1000320,(⟨22,.sl 3 tI,a,true,false⟩:Row)),(1000960,(⟨22,.sl 3 tI,b,true,false⟩:Row))]
def f80l14:z00:=⟨[0,4,5,7,8,15,16,17],[],[],[],[(⟨false,5,0⟩,1000320),(⟨false,15,0⟩,1000960)]⟩
def zg3(a:LL)(b c:Int):St:=z16 [(0,xi b),(4,xi c),(5,xo 1000320)] [] [(1000320,(⟨22,.sl 3 tI,a,true,false⟩:Row))]
def zsl:z00:=⟨[0,4,5],[],[],[],[(⟨false,5,0⟩,1000320)]⟩
def zg2(a:LL):St:=z16 [(3,xo 1000192)] [] [(1000192,(⟨22,.sl 3 tI,a,true,false⟩:Row))]
def zsk:z00:=⟨[3],[],[],[],[(⟨false,3,0⟩,1000192)]⟩
def f80s17(a:LL):St:=z16 [(2,xo 1000128)] [] [(1000128,(⟨22,.sl 3 tI,a,true,false⟩:Row))]
def f80l17:z00:=⟨[2],[],[],[],[(⟨false,2,0⟩,1000128)]⟩
def f80B:Nat->Option z00:=z17 [(4,zg4),(3,zg4),(2,zsl),(1,zpt),(0,zsk),(1000000,f80l17)]
abbrev zm0{ρ:Type}(N n:Nat)(σ:St)(l:z00)(K:KT ρ):Option ρ:=z0p f80G tab f80B N (z2o 99 (z1q Tryz.f80) n) .n σ (z14 (some l) K)
def f80t1 N a (K:KT ρ):zm0 N 2 (f80s0 a) f80l1 K =
 z0h.Z1 N a (λa=>K .nrm (f80s1 a)):=by kernel_rfl
def f80t3 N a (K:KT ρ):zm0 N 5 (f80s1 a) f80l2 K =
 z0h.Z3 N a (λb a=>K .nrm (f80s2 b a)):=by kernel_rfl
def f80t6 N a b (K:KT ρ):zm0 N 19 (f80s2 a b) zpt K =
 z0h.Z6 N a b (λa b c=>K .nrm (zhl a b c)):=by kernel_rfl
def f80t10 N a b c (K:KT ρ):zm0 N 139 (zhl a b c) zpt K =
 z0h.Z10 N a b c (λa b c=>K .nrm (zhl a b c)) (λa=>K (.exit 0) (zg2 a)):=by kernel_rfl
def f80t14 N a b c (K:KT ρ):zm0 N 1099 (zhl a b c) f80l4 K =
 z0h.Z14 N a b c (λa b c=>K .nrm (f80s4 a b c)):=by kernel_rfl
def f80t17 N c a b (K:KT ρ):zm0 N 4683 (f80s4 c a b) f80l5 K =
 z0h.Z17 N c a b (λd a b e f=>K .nrm (f80s5 d a b e f)):=by kernel_rfl
def f80t21 N a b c d e f (K:KT ρ):zm0 N 35403 (f80s11 a b c d e f) f80l12 K =
 z0h.Z21 N a b c d e f (λa b c d e f g=>K .nrm (f80s12 a b c d e f g)):=by kernel_rfl
def f80t23 N a d b c e f g (K:KT ρ):zm0 N 84555 (f80s12 a d b c e f g) zg4 K =
 z0h.Z23 N a d b c e f g (λa d b c e f=>K .nrm (zco a d b c e f)) (λa b c=>K (.exit 2) (zg3 a b c)):=by kernel_rfl
def f80t27 N a b c d e f (K:KT ρ):zm0 N 576075 (zco a b c d e f) f80l13 K =
 z0h.Z27 N a b c d e f (λa b c d g e f=>K .nrm (f80s13 a b c d g e f)):=by kernel_rfl
def f80t29 N a b c d e f g (K:KT ρ):zm0 N 1362507 (f80s13 a b c d e f g) f80l14 K =
 z0h.Z29 N a b c d e f g (λa b c d e h f g=>K .nrm (znx a b c d e h f g)):=by kernel_rfl
def f80t32 N a b c d g h e f (K:KT ρ):zm0 N 5032523 (znx a b c d g h e f) f80l14 K =
 z0h.Z32 N a b c d g h e f (λa b c d g h e f=>K .nrm (znx a b c d g h e f)) (λa b c d e f=>K (.exit 4) (zco a b c d e f)):=by kernel_rfl
def f80t31L N (K:KT ρ):=lp8 K (z0h.Z31L N (λa b c d e f=>K (.exit 4) (zco a b c d e f))) (λa b c d g h e f k=>z0h.Z32 N a b c d g h e f k (λa b c d e f=>K (.exit 4) (zco a b c d e f))) (λF a b c d g h e f=>f80t32 N a b c d g h e f _) (by kernel_rfl)
def f80t31 N a b c d e f g h (K:KT ρ):=vL (znx a b c d e f g h) (f80t31L N (jK zg4 K) N a b c d e f g h) (by kernel_rfl)
def f80t30 N a b c d g h e f (K:KT ρ):=vB 4 zg4 K (z0h.Z30 N a b c d g h e f (λa b c d e f=>K .nrm (zco a b c d e f))) (f80t31 N a b c d g h e f _) (by kernel_rfl)
def f80t28 N a b c d e f g (K:KT ρ):=vQ (λk=>z0h.Z29 N a b c d e f g k) (f80t29 N a b c d e f g _) (fx8 λa b c d e h f g=>f80t30 N a b c d e h f g K)
def f80t26 N a b c d e f (K:KT ρ):=vQ (λk=>z0h.Z27 N a b c d e f k) (f80t27 N a b c d e f _) (fx7 λa b c d g e f=>f80t28 N a b c d g e f K)
def f80t25 N a b c d e f (K:KT ρ):=vB 3 zg4 K (z0h.Z25 N a b c d e f (λa b c d e f=>K .nrm (zco a b c d e f))) (f80t26 N a b c d e f _) (by kernel_rfl)
def f80t33 N a b c d e f (K:KT ρ):zm0 N 248395 (zco a b c d e f) f80l11 K =
 z0h.Z33 N a b c d e f (λa b c d e f=>K .nrm (f80s11 a b c d e f)):=by kernel_rfl
def f80t24 N a b c d e f (K:KT ρ):=vQ (λk=>z0h.Z25 N a b c d e f k) (f80t25 N a b c d e f _) (fx6 λa b c d e f=>f80t33 N a b c d e f K)
def f80t22 N a d b c e f g (K:KT ρ):=vQ (λk=>z0h.Z23 N a d b c e f g k (λa b c=>K (.exit 2) (zg3 a b c))) (f80t23 N a d b c e f g _) (fx6 λa d b c e f=>f80t24 N a d b c e f K)
def f80t20 N a b c d e f (K:KT ρ):=vQ (λk=>z0h.Z21 N a b c d e f k) (f80t21 N a b c d e f _) (fx7 λa b c d e f g=>f80t22 N a b c d e f g K)
def f80t19L N (K:KT ρ):=lp6 K (z0h.Z19L N (λa b c=>K (.exit 2) (zg3 a b c))) (λa d b c e f k=>z0h.Z20 N a d b c e f k (λa b c=>K (.exit 2) (zg3 a b c))) (λF a d b c e f=>f80t20 N a d b c e f _) (by kernel_rfl)
def f80t19 N a b c d e (K:KT ρ):=vL (f80s5 a b c d e) (f80t19L N (jK zsl K) N ([]:List (LI)) a b c d e) (by kernel_rfl)
def f80t18 N c a b d e (K:KT ρ):=vB 2 zsl K (z0h.Z18 N c a b d e (λf a b=>K .nrm (zg3 f a b))) (f80t19 N c a b d e _) (by kernel_rfl)
def f80t16 N c a b (K:KT ρ):=vQ (λk=>z0h.Z17 N c a b k) (f80t17 N c a b _) (fx5 λd a b e f=>f80t18 N d a b e f K)
def f80t34 N c a b (K:KT ρ):zm0 N 3659 (zg3 c a b) zpt K =
 z0h.Z34 N c a b (λd a b=>K .nrm (zhl d a b)):=by kernel_rfl
def f80t15 N c a b (K:KT ρ):=vQ (λk=>z0h.Z16 N c a b k) (f80t16 N c a b _) (fx3 λd a b=>f80t34 N d a b K)
def f80t13 N a b c (K:KT ρ):=vQ (λk=>z0h.Z14 N a b c k) (f80t14 N a b c _) (fx3 λa b c=>f80t15 N a b c K)
def f80t12 N a b c (K:KT ρ):=vB 1 zpt K (z0h.Z12 N a b c (λa b c=>K .nrm (zhl a b c))) (f80t13 N a b c _) (by kernel_rfl)
def f80t35 N a b c (K:KT ρ):zm0 N 459 (zhl a b c) zpt K =
 z0h.Z35 N a b c (λa b c=>K .nrm (zhl a b c)):=by kernel_rfl
def f80t11 N a b c (K:KT ρ):=vQ (λk=>z0h.Z12 N a b c k) (f80t12 N a b c _) (fx3 λa b c=>f80t35 N a b c K)
def f80t9 N a b c (K:KT ρ):=vQ (λk=>z0h.Z10 N a b c k (λa=>K (.exit 0) (zg2 a))) (f80t10 N a b c _) (fx3 λa b c=>f80t11 N a b c K)
def f80t8L N (K:KT ρ):=lp3 K (z0h.Z8L N (λa=>K (.exit 0) (zg2 a))) (λa b c k=>z0h.Z9 N a b c k (λa=>K (.exit 0) (zg2 a))) (λF a b c=>f80t9 N a b c _) (by kernel_rfl)
def f80t8 N a b c (K:KT ρ):=vL (zhl a b c) (f80t8L N (jK zsk K) N a b c) (by kernel_rfl)
def f80t7 N a b c (K:KT ρ):=vB 0 zsk K (z0h.Z7 N a b c (λa=>K .nrm (zg2 a))) (f80t8 N a b c _) (by kernel_rfl)
def f80t5 N a b (K:KT ρ):=vQ (λk=>z0h.Z6 N a b k) (f80t6 N a b _) (fx3 λa b c=>f80t7 N a b c K)
def f80t36 N a (K:KT ρ):zm0 N 15 (zg2 a) f80lE K =
 z0h.Z36 N a (λb=>K .ret (f80s17 b)):=by kernel_rfl
def f80t4 N a b (K:KT ρ):=vQ (λk=>z0h.Z5 N a b k) (f80t5 N a b _) (funext λa=>f80t36 N a K)
def f80t2 N a (K:KT ρ):=vQ (λk=>z0h.Z3 N a k) (f80t3 N a _) (fx2 λb a=>f80t4 N b a K)
def f80t0 N a (K:KT ρ):=vQ (λk=>z0h.Z1 N a k) (f80t1 N a _) (funext λa=>f80t2 N a K)
def f80ok(h:z0h.Spec):z0a Tryz.prog 80 e80 :=
 okC Tryz.func80 z2q f80GOk (λN X K=>f80t0 N X.1 K) (by kernel_rfl) λX hb hp=>by
  obtain⟨a,_⟩:=X
  obtain⟨N,h⟩:=h a hp
  exact⟨N,Eq.trans (by kernel_rfl) (h N (Nat.le_refl N))⟩
def e80ok:z0a Tryz.prog 80 e80:=f80ok z0h.ok
end Go.Fw
namespace Go.Fw
variable {ρ : Type}
open Go.Proofs
def zsw:Sig:=⟨[⟨.sl 3 (.int .i64),false,false⟩,⟨.int .i64,false,false⟩],[⟨.int .i64,false,false⟩]⟩
def e182:z24:=⟨zsw,none,λX=>((),((z0s.g X.1 X.2.1),()))⟩
def f182G:Gm:=z1n
def f182GOk:GOk Tryz.prog f182G:=GOk.nil
def f182lE:z00:=⟨[],[],[],[],[]⟩
def f182s0(a:LI)(b:Int):St:=z1k zsw.ps (a,(b,()))
def f182s1(a:LI)(b:Int):St:=z16 [(0,.c (.sn 3 tI a none)),(1,xi b)] [] []
def f182l1:z00:=⟨[0,1],[],[],[],[]⟩
def zo0(a:LI)(b d e:Int):St:=z16 [(0,.c (.sn 3 tI a none)),(1,xi b),(7,xi d),(8,xi e)] [] []
def f182l2:z00:=⟨[0,1,7,8],[],[],[],[]⟩
def zkf :St:=z16 [] [] []
def zsx:z00:=⟨[],[],[],[],[]⟩
def zg7(a:Int):St:=z16 [(4,xi a)] [] []
def f182l4:z00:=⟨[4],[],[],[],[]⟩
def f182B:Nat->Option z00:=z17 [(0,zsx),(1000000,f182l4)]
abbrev f182j{ρ:Type}(N n:Nat)(σ:St)(l:z00)(K:KT ρ):Option ρ:=z0p f182G tab f182B N (z2o 99 (z1q Tryz.f182) n) .n σ (z14 (some l) K)
def f182t1 N a b (K:KT ρ):f182j N 2 (f182s0 a b) f182l1 K =
 z0s.Z1 N a b (λa b=>K .nrm (f182s1 a b)):=by kernel_rfl
def f182t4 N a b (K:KT ρ):f182j N 9 (f182s1 a b) f182l2 K =
 z0s.Z4 N a b (λa b c d=>K .nrm (zo0 a b c d)):=by kernel_rfl
def f182t7 N a b c d (K:KT ρ):f182j N 37 (zo0 a b c d) f182l2 K =
 z0s.Z7 N a b c d (λa b c d=>K .nrm (zo0 a b c d)) (K (.exit 0) zkf) (λe=>K .ret (zg7 e)):=by kernel_rfl
def f182t6L N (K:KT ρ):=lp4 K (z0s.Z6L N (K (.exit 0) zkf) (λa=>K .ret (zg7 a))) (λb c d e k=>z0s.Z7 N b c d e k (K (.exit 0) zkf) (λa=>K .ret (zg7 a))) (λF b c d e=>f182t7 N b c d e _) (by kernel_rfl)
def f182t6 N a b c d (K:KT ρ):=vL (zo0 a b c d) (f182t6L N (jK zsx K) N a b c d) (by kernel_rfl)
def f182t5 N a b c d (K:KT ρ):=vB 0 zsx K (z0s.Z5 N a b c d (K .nrm zkf) (λe=>K .ret (zg7 e))) (f182t6 N a b c d _) (by kernel_rfl)
def f182t3 N a b (K:KT ρ):=vQ (λk=>z0s.Z4 N a b k) (f182t4 N a b _) (fx4 λa b c d=>f182t5 N a b c d K)
def f182t8 N  (K:KT ρ):f182j N 7 zkf f182lE K =
 z0s.Z8 N (λa=>K .ret (zg7 a)):=by kernel_rfl
def f182t2 N a b (K:KT ρ):=vQ (λk=>z0s.Z3 N a b k (λc=>K .ret (zg7 c))) (f182t3 N a b _) (f182t8 N K)
def f182t0 N a b (K:KT ρ):=vQ (λk=>z0s.Z1 N a b k) (f182t1 N a b _) (fx2 λa b=>f182t2 N a b K)
def f182ok(h:z0s.Spec):z0a Tryz.prog 182 e182 :=
 okC Tryz.func182 z2q f182GOk (λN X K=>f182t0 N X.1 X.2.1 K) (by kernel_rfl) λX hb hp=>by
  obtain⟨a,b,_⟩:=X
  obtain⟨N,h⟩:=h a b hb.1
  exact⟨N,Eq.trans (by kernel_rfl) (h N (Nat.le_refl N))⟩
def e182ok:z0a Tryz.prog 182 e182:=f182ok z0s.ok
end Go.Fw
namespace Go.Fw
variable {ρ : Type}
open Go.Proofs
def zt1:Sig:=⟨[⟨.sl 3 (.int .i64),false,false⟩,⟨.int .i64,false,false⟩],[⟨.bool,false,false⟩]⟩
def e157:z24:=⟨zt1,none,λX=>((),((z1g.g X.1 X.2.1),()))⟩
def f157G:Gm:=z3m z1n 182 e182
def f157GOk:GOk Tryz.prog f157G:=(GOk.nil).add e182ok (by kernel_rfl)
def f157lE:z00:=⟨[],[],[],[],[]⟩
def f157s0(a:LI)(b:Int):St:=z1k zt1.ps (a,(b,()))
def f157s1(a:Bool):St:=z16 [(4,xB a)] [] []
def f157l1:z00:=⟨[4],[],[],[],[]⟩
def f157B:Nat->Option z00:=z17 [(1000000,f157l1)]
abbrev f157j{ρ:Type}(N n:Nat)(σ:St)(l:z00)(K:KT ρ):Option ρ:=z0p f157G tab f157B N (z2o 99 (z1q Tryz.f157) n) .n σ (z14 (some l) K)
def f157t0 N a b (K:KT ρ):f157j N 1 (f157s0 a b) f157lE K =
 z1g.Z0 N a b (λc=>K .ret (f157s1 c)):=by kernel_rfl
def f157ok(h:z1g.Spec):z0a Tryz.prog 157 e157 :=
 okC Tryz.func157 z2q f157GOk (λN X K=>f157t0 N X.1 X.2.1 K) (by kernel_rfl) λX hb hp=>by
  obtain⟨a,b,_⟩:=X
  obtain⟨N,h⟩:=h a b hb.1
  exact⟨N,Eq.trans (by kernel_rfl) (h N (Nat.le_refl N))⟩
def e157ok:z0a Tryz.prog 157 e157:=f157ok z1g.ok
end Go.Fw
namespace Go.Fw
variable {ρ : Type}
open Go.Proofs
def ztf:Sig:=⟨[⟨.sl 3 (.int .i64),false,false⟩,⟨.int .i64,false,false⟩],[⟨.bool,false,false⟩]⟩
def e116:z24:=⟨ztf,none,λX=>((),((z1l.g X.1 X.2.1),()))⟩
def f116G:Gm:=z3m (z3m z1n 91 e91) 157 e157
def f116GOk:GOk Tryz.prog f116G:=((GOk.nil).add e91ok (by kernel_rfl)).add e157ok (by kernel_rfl)
def f116lE:z00:=⟨[],[],[],[],[]⟩
def f116s0(a:LI)(b:Int):St:=z1k ztf.ps (a,(b,()))
def zo9(a:LI)(b:Int):St:=z16 [(0,.c (.sn 3 tI a none)),(1,xi b)] [] []
def f116l1:z00:=⟨[0,1],[],[],[],[]⟩
def zo8(a:LI)(b:Int)(d:LI)(e f:Int):St:=z16 [(0,.c (.sn 3 tI a none)),(1,xi b),(11,.c (.sn 3 tI d none)),(12,xi e),(13,xi f)] [] []
def f116l2:z00:=⟨[0,1,11,12,13],[],[],[],[]⟩
def zkm :St:=z16 [] [] []
def ztg:z00:=⟨[],[],[],[],[]⟩
def zcr(a:Bool):St:=z16 [(4,xB a)] [] []
def f116l4:z00:=⟨[4],[],[],[],[]⟩
def f116B:Nat->Option z00:=z17 [(0,ztg),(1000000,f116l4)]
abbrev zth{ρ:Type}(N n:Nat)(σ:St)(l:z00)(K:KT ρ):Option ρ:=z0p f116G tab f116B N (z2o 99 (z1q Tryz.f116) n) .n σ (z14 (some l) K)
def f116t1 N a b (K:KT ρ):zth N 2 (f116s0 a b) f116l1 K =
 z1l.Z1 N a b (λa b=>K .nrm (zo9 a b)):=by kernel_rfl
def f116t3 N a b (K:KT ρ):zth N 5 (zo9 a b) f116l1 K =
 z1l.Z3 N a b (λa b=>K .nrm (zo9 a b)) (λc=>K .ret (zcr c)):=by kernel_rfl
def f116t6 N a b (K:KT ρ):zth N 19 (zo9 a b) f116l2 K =
 z1l.Z6 N a b (λa b c d e=>K .nrm (zo8 a b c d e)):=by kernel_rfl
def f116t9 N a b c d e (K:KT ρ):zth N 75 (zo8 a b c d e) f116l2 K =
 z1l.Z9 N a b c d e (λa b c d e=>K .nrm (zo8 a b c d e)) (K (.exit 0) zkm) (λf=>K .ret (zcr f)):=by kernel_rfl
def f116t8L N (K:KT ρ):=lp5 K (z1l.Z8L N (K (.exit 0) zkm) (λa=>K .ret (zcr a))) (λb c d e f k=>z1l.Z9 N b c d e f k (K (.exit 0) zkm) (λa=>K .ret (zcr a))) (λF b c d e f=>f116t9 N b c d e f _) (by kernel_rfl)
def f116t8 N a b c d e (K:KT ρ):=vL (zo8 a b c d e) (f116t8L N (jK ztg K) N a b c d e) (by kernel_rfl)
def f116t7 N a b c d e (K:KT ρ):=vB 0 ztg K (z1l.Z7 N a b c d e (K .nrm zkm) (λf=>K .ret (zcr f))) (f116t8 N a b c d e _) (by kernel_rfl)
def f116t5 N a b (K:KT ρ):=vQ (λk=>z1l.Z6 N a b k) (f116t6 N a b _) (fx5 λa b c d e=>f116t7 N a b c d e K)
def f116t10 N  (K:KT ρ):zth N 15 zkm f116lE K =
 z1l.Z10 N (λa=>K .ret (zcr a)):=by kernel_rfl
def f116t4 N a b (K:KT ρ):=vQ (λk=>z1l.Z5 N a b k (λc=>K .ret (zcr c))) (f116t5 N a b _) (f116t10 N K)
def f116t2 N a b (K:KT ρ):=vQ (λk=>z1l.Z3 N a b k (λc=>K .ret (zcr c))) (f116t3 N a b _) (fx2 λa b=>f116t4 N a b K)
def f116t0 N a b (K:KT ρ):=vQ (λk=>z1l.Z1 N a b k) (f116t1 N a b _) (fx2 λa b=>f116t2 N a b K)
def f116ok(h:z1l.Spec):z0a Tryz.prog 116 e116 :=
 okC Tryz.func116 z2q f116GOk (λN X K=>f116t0 N X.1 X.2.1 K) (by kernel_rfl) λX hb hp=>by
  obtain⟨a,b,_⟩:=X
  obtain⟨N,h⟩:=h a b hb.1
  exact⟨N,Eq.trans (by kernel_rfl) (h N (Nat.le_refl N))⟩
def e116ok:z0a Tryz.prog 116 e116:=f116ok z1l.ok
end Go.Fw
