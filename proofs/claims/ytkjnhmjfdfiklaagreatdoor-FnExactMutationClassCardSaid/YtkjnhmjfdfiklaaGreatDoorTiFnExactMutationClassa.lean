/- The ties: the program's text comes to the plain functions. Nothing is assumed. -/
import Derived.Test.YtkjnhmjfdfiklaaGreatDoorFza
import Derived.Test.YtkjnhmjfdfiklaaGreatDoorFwd
import Derived.Test.YtkjnhmjfdfiklaaGreatDoorProg
import Derived.Test.YtkjnhmjfdfiklaaGreatDoorPuFnExactMutationClassa
import Derived.Test.YtkjnhmjfdfiklaaGreatDoorPuFnExactMutationClassb
import Derived.Test.YtkjnhmjfdfiklaaGreatDoorChecked
noncomputable section
set_option linter.defProp false
set_option linter.unusedSectionVars false
set_option linter.unusedVariables false
set_option linter.unusedSimpArgs false
set_option maxRecDepth 100000
namespace Go.Fw
open Go.Proofs
def tab:Tab:=zgu [
 (2,⟨false,.int .i64,[.int .i64 0],[],none,8⟩),
 (3,⟨false,.int .i64,[.int .i64 0],[],none,8⟩),
 (4,⟨false,.bool,[.bool false],[],none,1⟩),
 (5,⟨false,.int .u8,[.int .u8 0],[],none,1⟩),
 (6,⟨false,.int .u8,[.int .u8 0],[],none,1⟩),
 (7,⟨true,.pair (.int .i64) (.pair (.int .i64) (.pair (.bool) (.int .u8))),[.int .i64 0,.int .i64 0,.bool false,.int .u8 0],[(0,1,false),(1,1,false),(2,1,false),(3,1,false)],none,24⟩),
 (8,⟨true,.pair (.int .i64) (.pair (.int .i64) (.pair (.bool) (.int .u8))),[.int .i64 0,.int .i64 0,.bool false,.int .u8 0],[(0,1,false),(1,1,false),(2,1,false),(3,1,false)],none,24⟩),
 (9,⟨false,.str,[.str ByteArray.empty],[],none,16⟩),
 (10,⟨false,.str,[.str ByteArray.empty],[],none,16⟩),
 (11,⟨false,.str,[.str ByteArray.empty],[],none,16⟩),
 (12,⟨false,.int .u64,[.int .u64 0],[],none,8⟩),
 (13,⟨true,.pair (.str) (.int .u64),[.str ByteArray.empty,.int .u64 0],[(0,1,false),(1,1,false)],none,24⟩),
 (14,⟨true,.pair (.str) (.int .u64),[.str ByteArray.empty,.int .u64 0],[(0,1,false),(1,1,false)],none,24⟩),
 (20,⟨false,.err,[.err false],[],none,16⟩),
 (21,⟨false,.int .i32,[.int .i32 0],[],none,4⟩),
 (22,⟨false,.sl 3 (.int .i64),[.nil],[],some 3,24⟩),
 (23,⟨true,.pair (.int .i64) (.pair (.int .i64) (.sl 3 (.int .i64))),[.int .i64 0,.int .i64 0,.nil],[(0,1,false),(1,1,false),(2,1,false)],none,40⟩),
 (24,⟨true,.pair (.int .i64) (.pair (.int .i64) (.sl 3 (.int .i64))),[.int .i64 0,.int .i64 0,.nil],[(0,1,false),(1,1,false),(2,1,false)],none,40⟩),
 (27,⟨true,.pair (.int .i64) (.pair (.int .i64) (.sl 3 (.int .i64))),[.int .i64 0,.int .i64 0,.nil],[(0,1,false),(1,1,false),(2,1,false)],none,40⟩),
 (31,⟨false,.sl 27 (.pair (.int .i64) (.pair (.int .i64) (.sl 3 (.int .i64)))),[.nil],[],some 27,24⟩),
 (37,⟨false,.sl 5 (.int .u8),[.nil],[],some 5,24⟩),
 (52,⟨false,.sl 22 (.sl 3 (.int .i64)),[.nil],[],some 22,24⟩),
 (59,⟨false,.pair (.str) (.sl 0 .bool),[.undef],[],none,8⟩),
 (70,⟨false,.sl 9 (.str),[.nil],[],some 9,24⟩),
 (96,⟨false,.int .u64,[.int .u64 0],[],none,8⟩),
 (97,⟨true,.pair (.sl 5 (.int .u8)) (.pair (.int .i64) (.int .i64)),[.nil,.int .i64 0,.int .i64 0],[(0,1,false),(1,1,false),(2,1,false)],none,40⟩),
 (98,⟨true,.pair (.sl 5 (.int .u8)) (.pair (.int .i64) (.int .i64)),[.nil,.int .i64 0,.int .i64 0],[(0,1,false),(1,1,false),(2,1,false)],none,40⟩),
 (102,⟨false,.err,[.err false],[],none,16⟩),
 (103,⟨false,.err,[.err false],[],none,16⟩),
 (109,⟨false,.sl 4 (.bool),[.nil],[],some 4,24⟩),
 (122,⟨false,.int .i64,[.int .i64 0],[],none,8⟩),
 (130,⟨false,.int .u32,[.int .u32 0],[],none,4⟩),
 (132,⟨false,.int .u64,[.int .u64 0],[],none,8⟩),
 (150,⟨false,.int .u64,[.int .u64 0],[],none,8⟩),
 (159,⟨false,.int .i64,[.int .i64 0],[],none,8⟩),
 (179,⟨true,.pair (.str) (.pair (.str) (.err)),[.str ByteArray.empty,.str ByteArray.empty,.err false],[(0,1,false),(1,1,false),(2,1,false)],none,48⟩),
 (180,⟨true,.pair (.str) (.pair (.str) (.err)),[.str ByteArray.empty,.str ByteArray.empty,.err false],[(0,1,false),(1,1,false),(2,1,false)],none,48⟩),
 (189,⟨true,.pair (.int .u8) (.int .u8),[.int .u8 0,.int .u8 0],[(0,1,false),(1,1,false)],none,2⟩),
 (190,⟨true,.pair (.int .u8) (.int .u8),[.int .u8 0,.int .u8 0],[(0,1,false),(1,1,false)],none,2⟩),
 (196,⟨true,.str,[.str ByteArray.empty],[(0,1,false)],none,16⟩),
 (197,⟨true,.str,[.str ByteArray.empty],[(0,1,false)],none,16⟩),
 (209,⟨false,.int .u8,[.int .u8 0],[],none,1⟩),
 (210,⟨false,.int .u8,[.int .u8 0],[],none,1⟩),
 (212,⟨false,.int .i32,[.int .i32 0],[],none,4⟩),
 (213,⟨false,.int .i32,[.int .i32 0],[],none,4⟩)]
def z2t:TOk Tryz.prog tab:=TOk.of (by kernel_rfl)
def tabl : List (String × IntKind × List Int) := [("internal/strconv.uint64pow10", .u64, Lib.pow10Tab)]
def intl:List (String×IntKind):=[]
def errl:List String:=[]
instance:Inv Tryz.prog:=Inv.tabs _ tabl intl errl
theorem tab0 (w : World) (h : Inv.I Tryz.prog w) : Lib.TabIs Tryz.prog w "internal/strconv.uint64pow10" .u64 Lib.pow10Tab := Inv.tab_mem (q := intl) (es := errl) ("internal/strconv.uint64pow10", .u64, Lib.pow10Tab) (List.mem_of_getElem? (i := 0) rfl) w h
end Go.Fw
namespace Go.Fw
variable {ρ : Type}
open Go.Proofs
def f39sig:Sig:=⟨[⟨.sl 3 (.int .i64),false,false⟩,⟨.int .i64,false,false⟩],[⟨.int .i64,false,false⟩]⟩
def e39:z29:=⟨f39sig,none,λX=>((),((z2f.g X.1 X.2.1),()))⟩
def f39G:Gm:=z1r
def f39GOk:GOk Tryz.prog f39G:=GOk.nil
def f39lE:z00:=⟨[],[],[],[],[]⟩
def f39s0(a:LI)(b:Int):St:=z1p f39sig.ps (a,(b,()))
def f39s1(a:Int):St:=z14 [(4,xi a)] [] []
def f39l1:z00:=⟨[4],[],[],[],[]⟩
def f39B:Nat->Option z00:=z1b [(1000000,f39l1)]
abbrev f39j{ρ:Type}(N n:Nat)(σ:St)(l:z00)(K:KT ρ):Option ρ:=z0r f39G tab f39B N (z2q 99 (z1s Tryz.f39) n) .n σ (z16 (some l) K)
def f39t0 N a b (K:KT ρ):f39j N 1 (f39s0 a b) f39lE K =
 z2f.Z0 N a b (λc=>K .ret (f39s1 c)):=by kernel_rfl
def f39ok(h:z2f.Spec):z0a Tryz.prog 39 e39 :=
 okC Tryz.func39 z2t f39GOk (λN X K=>f39t0 N X.1 X.2.1 K) (by kernel_rfl) λX hb hp=>by
  obtain⟨a,b,_⟩:=X
  obtain⟨N,h⟩:=h a b hb.1
  exact⟨N,Eq.trans (by kernel_rfl) (h N (Nat.le_refl N))⟩
def e39ok:z0a Tryz.prog 39 e39:=f39ok z2f.ok
end Go.Fw
namespace Go.Fw
variable {ρ : Type}
open Go.Proofs
def f9sig:Sig:=⟨[⟨.pair (.int .i64) (.pair (.int .i64) (.sl 3 (.int .i64))),true,false⟩,⟨.int .i64,false,false⟩],[⟨.int .i64,false,false⟩]⟩
def e9:z29:=⟨f9sig,none,λX=>((),((z2r.g X.1 X.2.1),()))⟩
def f9G:Gm:=z3q z1r 39 e39
def f9GOk:GOk Tryz.prog f9G:=(GOk.nil).add e39ok (by kernel_rfl)
def f9lE:z00:=⟨[],[],[],[],[]⟩
def f9s0(a:MT)(b:Int):St:=z1p f9sig.ps (a,(b,()))
def f9s1(a:Int):St:=z14 [(4,xi a)] [] []
def f9l1:z00:=⟨[4],[],[],[],[]⟩
def f9B:Nat->Option z00:=z1b [(1000000,f9l1)]
abbrev f9j{ρ:Type}(N n:Nat)(σ:St)(l:z00)(K:KT ρ):Option ρ:=z0r f9G tab f9B N (z2q 99 (z1s Tryz.f9) n) .n σ (z16 (some l) K)
def f9t0 N a b (K:KT ρ):f9j N 1 (f9s0 a b) f9lE K =
 z2r.Z0 N a b (λc=>K .ret (f9s1 c)):=by kernel_rfl
def f9ok(h:z2r.Spec):z0a Tryz.prog 9 e9 :=
 okC Tryz.func9 z2t f9GOk (λN X K=>f9t0 N X.1 X.2.1 K) (by kernel_rfl) λX hb hp=>by
  obtain⟨a,b,_⟩:=X
  obtain⟨N,h⟩:=h a b hb.1
  exact⟨N,Eq.trans (by kernel_rfl) (h N (Nat.le_refl N))⟩
def e9ok:z0a Tryz.prog 9 e9:=f9ok z2r.ok
end Go.Fw
namespace Go.Fw
variable {ρ : Type}
open Go.Proofs
def f41sig:Sig:=⟨[⟨.sl 3 (.int .i64),false,false⟩],[⟨.sl 3 (.int .i64),false,false⟩]⟩
def e41:z29:=⟨f41sig,(some λX=>z1g.P X.1),λX=>((),((z1g.g X.1),()))⟩
def f41G:Gm:=z1r
def f41GOk:GOk Tryz.prog f41G:=GOk.nil
def f41lE:z00:=⟨[],[],[],[],[]⟩
def f41s0(a:LI):St:=z1p f41sig.ps (a,())
def f41s1(a:LI):St:=z14 [(0,.c (.sn 3 tI a none))] [] []
def f41l1:z00:=⟨[0],[],[],[],[]⟩
def f41s2(a b:LI):St:=z14 [(0,.c (.sn 3 tI b none)),(3,xo 1000192)] [] [(1000192,(⟨3,.int .i64,a,true,false⟩:Row))]
def f41l2:z00:=⟨[0,3],[],[],[],[(⟨false,3,0⟩,1000192)]⟩
def f41s3(a b:LI)(d:Int):St:=z14 [(0,.c (.sn 3 tI b none)),(3,xo 1000192),(4,xi d)] [] [(1000192,(⟨3,.int .i64,a,true,false⟩:Row))]
def f41l3:z00:=⟨[0,3,4],[],[],[],[(⟨false,3,0⟩,1000192)]⟩
def zsg(a:LI):St:=z14 [(3,xo 1000192)] [] [(1000192,(⟨3,.int .i64,a,true,false⟩:Row))]
def f41l4:z00:=⟨[3],[],[],[],[(⟨false,3,0⟩,1000192)]⟩
def f41s5(a:LI):St:=z14 [(2,xo 1000128)] [] [(1000128,(⟨3,.int .i64,a,true,false⟩:Row))]
def f41l5:z00:=⟨[2],[],[],[],[(⟨false,2,0⟩,1000128)]⟩
def f41B:Nat->Option z00:=z1b [(0,f41l4),(1000000,f41l5)]
abbrev f41j{ρ:Type}(N n:Nat)(σ:St)(l:z00)(K:KT ρ):Option ρ:=z0r f41G tab f41B N (z2q 99 (z1s Tryz.f41) n) .n σ (z16 (some l) K)
def f41t1 N a (K:KT ρ):f41j N 2 (f41s0 a) f41l1 K =
 z1g.Z1 N a (λa=>K .nrm (f41s1 a)):=by kernel_rfl
def f41t3 N a (K:KT ρ):f41j N 5 (f41s1 a) f41l2 K =
 z1g.Z3 N a (λb a=>K .nrm (f41s2 b a)):=by kernel_rfl
def f41t6 N a b (K:KT ρ):f41j N 19 (f41s2 a b) f41l3 K =
 z1g.Z6 N a b (λa b c=>K .nrm (f41s3 a b c)):=by kernel_rfl
def f41t9 N a b c (K:KT ρ):f41j N 75 (f41s3 a b c) f41l3 K =
 z1g.Z9 N a b c (λa b c=>K .nrm (f41s3 a b c)) (λa=>K (.exit 0) (zsg a)):=by kernel_rfl
def f41t8L N (K:KT ρ):=lp3 K (z1g.Z8L N (λa=>K (.exit 0) (zsg a))) (λa b c k=>z1g.Z9 N a b c k (λa=>K (.exit 0) (zsg a))) (λF a b c=>f41t9 N a b c _) (by kernel_rfl)
def f41t8 N a b c (K:KT ρ):=vL (f41s3 a b c) (f41t8L N (jK f41l4 K) N a b c) (by kernel_rfl)
def f41t7 N a b c (K:KT ρ):=vB 0 f41l4 K (z1g.Z7 N a b c (λa=>K .nrm (zsg a))) (f41t8 N a b c _) (by kernel_rfl)
def f41t5 N a b (K:KT ρ):=vQ (λk=>z1g.Z6 N a b k) (f41t6 N a b _) (fx3 λa b c=>f41t7 N a b c K)
def f41t10 N a (K:KT ρ):f41j N 15 (zsg a) f41lE K =
 z1g.Z10 N a (λb=>K .ret (f41s5 b)):=by kernel_rfl
def f41t4 N a b (K:KT ρ):=vQ (λk=>z1g.Z5 N a b k) (f41t5 N a b _) (funext λa=>f41t10 N a K)
def f41t2 N a (K:KT ρ):=vQ (λk=>z1g.Z3 N a k) (f41t3 N a _) (fx2 λb a=>f41t4 N b a K)
def f41t0 N a (K:KT ρ):=vQ (λk=>z1g.Z1 N a k) (f41t1 N a _) (funext λa=>f41t2 N a K)
def f41ok(h:z1g.Spec):z0a Tryz.prog 41 e41 :=
 okC Tryz.func41 z2t f41GOk (λN X K=>f41t0 N X.1 K) (by kernel_rfl) λX hb hp=>by
  obtain⟨a,_⟩:=X
  obtain⟨N,h⟩:=h a hb.1 hp
  exact⟨N,Eq.trans (by kernel_rfl) (h N (Nat.le_refl N))⟩
def e41ok:z0a Tryz.prog 41 e41:=f41ok z1g.ok
end Go.Fw
namespace Go.Fw
variable {ρ : Type}
open Go.Proofs
def f11sig:Sig:=⟨[⟨.pair (.int .i64) (.pair (.int .i64) (.sl 3 (.int .i64))),true,false⟩],[⟨.pair (.int .i64) (.pair (.int .i64) (.sl 3 (.int .i64))),true,false⟩]⟩
def e11:z29:=⟨f11sig,(some λX=>z1c.P X.1),λX=>((),((z1c.g X.1),()))⟩
def f11G:Gm:=z3q z1r 41 e41
def f11GOk:GOk Tryz.prog f11G:=(GOk.nil).add e41ok (by kernel_rfl)
def f11lE:z00:=⟨[],[],[],[],[]⟩
def f11s0(a:MT):St:=z1p f11sig.ps (a,())
def f11s1(a:LI)(b c:Int):St:=z14 [(2,xb 2)] [(2,(27,[yi b,yi c,.own 20000130]))] [(20000130,(⟨3,.int .i64,a,true,false⟩:Row))]
def f11l1:z00:=⟨[2],[2],[],[],[(⟨true,2,2⟩,20000130)]⟩
def f11B:Nat->Option z00:=z1b [(1000000,f11l1)]
abbrev f11j{ρ:Type}(N n:Nat)(σ:St)(l:z00)(K:KT ρ):Option ρ:=z0r f11G tab f11B N (z2q 99 (z1s Tryz.f11) n) .n σ (z16 (some l) K)
def f11t0 N a (K:KT ρ):f11j N 1 (f11s0 a) f11lE K =
 z1c.Z0 N a (λb c d=>K .ret (f11s1 b c d)):=by kernel_rfl
def f11ok(h:z1c.Spec):z0a Tryz.prog 11 e11 :=
 okC Tryz.func11 z2t f11GOk (λN X K=>f11t0 N X.1 K) (by kernel_rfl) λX hb hp=>by
  obtain⟨a,_⟩:=X
  obtain⟨N,h⟩:=h a hb.1 hp
  exact⟨N,Eq.trans (by kernel_rfl) (h N (Nat.le_refl N))⟩
def e11ok:z0a Tryz.prog 11 e11:=f11ok z1c.ok
end Go.Fw
namespace Go.Fw
variable {ρ : Type}
open Go.Proofs
def zta:Sig:=⟨[⟨.int .i64,false,false⟩,⟨.int .i64,false,false⟩,⟨.int .i64,false,false⟩],[⟨.bool,false,false⟩]⟩
def e104:z29:=⟨zta,none,λX=>((),((z3w.g X.1 X.2.1 X.2.2.1),()))⟩
def f104G:Gm:=z1r
def f104GOk:GOk Tryz.prog f104G:=GOk.nil
def f104lE:z00:=⟨[],[],[],[],[]⟩
def f104s0(a b c:Int):St:=z1p zta.ps (a,(b,(c,())))
def f104s1(a:Bool):St:=z14 [(6,xB a)] [] []
def f104l1:z00:=⟨[6],[],[],[],[]⟩
def f104B:Nat->Option z00:=z1b [(1000000,f104l1)]
abbrev f104j{ρ:Type}(N n:Nat)(σ:St)(l:z00)(K:KT ρ):Option ρ:=z0r f104G tab f104B N (z2q 99 (z1s Tryz.f104) n) .n σ (z16 (some l) K)
def f104t0 N a b c (K:KT ρ):f104j N 1 (f104s0 a b c) f104lE K =
 z3w.Z0 N a b c (λd=>K .ret (f104s1 d)):=by kernel_rfl
def f104ok(h:z3w.Spec):z0a Tryz.prog 104 e104 :=
 okC Tryz.func104 z2t f104GOk (λN X K=>f104t0 N X.1 X.2.1 X.2.2.1 K) (by kernel_rfl) λX hb hp=>by
  obtain⟨a,b,c,_⟩:=X
  obtain⟨N,h⟩:=h a b c
  exact⟨N,Eq.trans (by kernel_rfl) (h N (Nat.le_refl N))⟩
def e104ok:z0a Tryz.prog 104 e104:=f104ok z3w.ok
end Go.Fw
namespace Go.Fw
variable {ρ : Type}
open Go.Proofs
def zt9:Sig:=⟨[⟨.pair (.int .i64) (.pair (.int .i64) (.sl 3 (.int .i64))),true,false⟩,⟨.int .i64,false,false⟩,⟨.int .i64,false,false⟩],[⟨.int .i64,false,false⟩]⟩
def e105:z29:=⟨zt9,(some λX=>z0v.P X.1 X.2.1 X.2.2.1),λX=>((),((z0v.g X.1 X.2.1 X.2.2.1),()))⟩
def f105G:Gm:=z1r
def f105GOk:GOk Tryz.prog f105G:=GOk.nil
def f105lE:z00:=⟨[],[],[],[],[]⟩
def f105s0(a:MT)(b c:Int):St:=z1p zt9.ps (a,(b,(c,())))
def f105s1(a:Int):St:=z14 [(6,xi a)] [] []
def f105l1:z00:=⟨[6],[],[],[],[]⟩
def f105B:Nat->Option z00:=z1b [(1000000,f105l1)]
abbrev f105j{ρ:Type}(N n:Nat)(σ:St)(l:z00)(K:KT ρ):Option ρ:=z0r f105G tab f105B N (z2q 99 (z1s Tryz.f105) n) .n σ (z16 (some l) K)
def f105t0 N a b c (K:KT ρ):f105j N 1 (f105s0 a b c) f105lE K =
 z0v.Z0 N a b c (λd=>K .ret (f105s1 d)):=by kernel_rfl
def f105ok(h:z0v.Spec):z0a Tryz.prog 105 e105 :=
 okC Tryz.func105 z2t f105GOk (λN X K=>f105t0 N X.1 X.2.1 X.2.2.1 K) (by kernel_rfl) λX hb hp=>by
  obtain⟨a,b,c,_⟩:=X
  obtain⟨N,h⟩:=h a b c hb.1 hp
  exact⟨N,Eq.trans (by kernel_rfl) (h N (Nat.le_refl N))⟩
def zkb:z0a Tryz.prog 105 e105:=f105ok z0v.ok
end Go.Fw
namespace Go.Fw
variable {ρ : Type}
open Go.Proofs
def f65sig:Sig:=⟨[⟨.pair (.int .i64) (.pair (.int .i64) (.sl 3 (.int .i64))),true,false⟩],[⟨.bool,false,false⟩]⟩
def e65:z29:=⟨f65sig,none,λX=>((),((z0m.g X.1),()))⟩
def f65G:Gm:=z3q (z3q z1r 104 e104) 105 e105
def f65GOk:GOk Tryz.prog f65G:=((GOk.nil).add e104ok (by kernel_rfl)).add zkb (by kernel_rfl)
def f65lE:z00:=⟨[],[],[],[],[]⟩
def f65s0(a:MT):St:=z1p f65sig.ps (a,())
def zhg(a b:Int)(c:LI):St:=z14 [(1,xb 1)] [(1,(27,[yi a,yi b,.sn 3 tI c none]))] []
def zs9:z00:=⟨[1],[1],[],[],[]⟩
def f65s2(a b c:Int)(d:LI):St:=z14 [(1,xb 1),(3,xi a)] [(1,(27,[yi b,yi c,.sn 3 tI d none]))] []
def f65l2:z00:=⟨[1,3],[1],[],[],[]⟩
def zd1(a b c:Int)(d:LI):St:=z14 [(1,xb 1),(4,xi a)] [(1,(27,[yi b,yi c,.sn 3 tI d none]))] []
def zjv:z00:=⟨[1,4],[1],[],[],[]⟩
def f65s4(a b c d:Int)(e:LI):St:=z14 [(1,xb 1),(4,xi a),(5,xi b)] [(1,(27,[yi c,yi d,.sn 3 tI e none]))] []
def f65l4:z00:=⟨[1,4,5],[1],[],[],[]⟩
def zpf :St:=z14 [] [] []
def f65l5:z00:=⟨[],[],[],[],[]⟩
def z82(a:Bool):St:=z14 [(2,xB a)] [] []
def f65l6:z00:=⟨[2],[],[],[],[]⟩
def f65B:Nat->Option z00:=z1b [(0,zs9),(4,zjv),(3,zjv),(2,f65l5),(1000000,f65l6)]
abbrev f65j{ρ:Type}(N n:Nat)(σ:St)(l:z00)(K:KT ρ):Option ρ:=z0r f65G tab f65B N (z2q 99 (z1s Tryz.f65) n) .n σ (z16 (some l) K)
def f65t1 N a (K:KT ρ):f65j N 2 (f65s0 a) zs9 K =
 z0m.Z1 N a (λb c d=>K .nrm (zhg b c d)):=by kernel_rfl
def f65t3 N a b c (K:KT ρ):f65j N 5 (zhg a b c) zs9 K =
 z0m.Z3 N a b c (λa b c=>K .nrm (zhg a b c)) (λd=>K .ret (z82 d)):=by kernel_rfl
def f65t6 N a b c (K:KT ρ):f65j N 19 (zhg a b c) f65l2 K =
 z0m.Z6 N a b c (λd a b c=>K .nrm (f65s2 d a b c)):=by kernel_rfl
def f65t9 N d a b c (K:KT ρ):f65j N 75 (f65s2 d a b c) f65l2 K =
 z0m.Z9 N d a b c (λd a b c=>K .nrm (f65s2 d a b c)) (λa b c=>K (.exit 0) (zhg a b c)) (λe=>K .ret (z82 e)):=by kernel_rfl
def f65t8L N (K:KT ρ):=lp4 K (z0m.Z8L N (λa b c=>K (.exit 0) (zhg a b c)) (λd=>K .ret (z82 d))) (λe a b c k=>z0m.Z9 N e a b c k (λa b c=>K (.exit 0) (zhg a b c)) (λd=>K .ret (z82 d))) (λF e a b c=>f65t9 N e a b c _) (by kernel_rfl)
def f65t8 N a b c d (K:KT ρ):=vL (f65s2 a b c d) (f65t8L N (jK zs9 K) N a b c d) (by kernel_rfl)
def f65t7 N d a b c (K:KT ρ):=vB 0 zs9 K (z0m.Z7 N d a b c (λa b c=>K .nrm (zhg a b c)) (λe=>K .ret (z82 e))) (f65t8 N d a b c _) (by kernel_rfl)
def f65t5 N a b c (K:KT ρ):=vQ (λk=>z0m.Z6 N a b c k) (f65t6 N a b c _) (fx4 λd a b c=>f65t7 N d a b c K)
def f65t12 N a b c (K:KT ρ):f65j N 39 (zhg a b c) zjv K =
 z0m.Z12 N a b c (λd a b c=>K .nrm (zd1 d a b c)):=by kernel_rfl
def f65t16 N a b c d (K:KT ρ):f65j N 279 (zd1 a b c d) zjv K =
 z0m.Z16 N a b c d (λa b c d=>K .nrm (zd1 a b c d)) (K (.exit 2) zpf):=by kernel_rfl
def f65t20 N a b c d (K:KT ρ):f65j N 2199 (zd1 a b c d) f65l4 K =
 z0m.Z20 N a b c d (λa e b c d=>K .nrm (f65s4 a e b c d)):=by kernel_rfl
def f65t23 N a e b c d (K:KT ρ):f65j N 9367 (f65s4 a e b c d) f65l4 K =
 z0m.Z23 N a e b c d (λa e b c d=>K .nrm (f65s4 a e b c d)) (λa b c d=>K (.exit 4) (zd1 a b c d)) (λf=>K .ret (z82 f)):=by kernel_rfl
def f65t22L N (K:KT ρ):=lp5 K (z0m.Z22L N (λa b c d=>K (.exit 4) (zd1 a b c d)) (λe=>K .ret (z82 e))) (λa f b c d k=>z0m.Z23 N a f b c d k (λa b c d=>K (.exit 4) (zd1 a b c d)) (λe=>K .ret (z82 e))) (λF a f b c d=>f65t23 N a f b c d _) (by kernel_rfl)
def f65t22 N a b c d e (K:KT ρ):=vL (f65s4 a b c d e) (f65t22L N (jK zjv K) N a b c d e) (by kernel_rfl)
def f65t21 N a e b c d (K:KT ρ):=vB 4 zjv K (z0m.Z21 N a e b c d (λa b c d=>K .nrm (zd1 a b c d)) (λf=>K .ret (z82 f))) (f65t22 N a e b c d _) (by kernel_rfl)
def f65t19 N a b c d (K:KT ρ):=vQ (λk=>z0m.Z20 N a b c d k) (f65t20 N a b c d _) (fx5 λa e b c d=>f65t21 N a e b c d K)
def f65t18 N a b c d (K:KT ρ):=vB 3 zjv K (z0m.Z18 N a b c d (λa b c d=>K .nrm (zd1 a b c d)) (λe=>K .ret (z82 e))) (f65t19 N a b c d _) (by kernel_rfl)
def f65t24 N a b c d (K:KT ρ):f65j N 919 (zd1 a b c d) zjv K =
 z0m.Z24 N a b c d (λa b c d=>K .nrm (zd1 a b c d)):=by kernel_rfl
def f65t17 N a b c d (K:KT ρ):=vQ (λk=>z0m.Z18 N a b c d k (λe=>K .ret (z82 e))) (f65t18 N a b c d _) (fx4 λa b c d=>f65t24 N a b c d K)
def f65t15 N a b c d (K:KT ρ):=vQ (λk=>z0m.Z16 N a b c d k (K (.exit 2) zpf)) (f65t16 N a b c d _) (fx4 λa b c d=>f65t17 N a b c d K)
def f65t14L N (K:KT ρ):=lp4 K (z0m.Z14L N (K (.exit 2) zpf) (λa=>K .ret (z82 a))) (λb c d e k=>z0m.Z15 N b c d e k (K (.exit 2) zpf) (λa=>K .ret (z82 a))) (λF b c d e=>f65t15 N b c d e _) (by kernel_rfl)
def f65t14 N a b c d (K:KT ρ):=vL (zd1 a b c d) (f65t14L N (jK f65l5 K) N a b c d) (by kernel_rfl)
def f65t13 N a b c d (K:KT ρ):=vB 2 f65l5 K (z0m.Z13 N a b c d (K .nrm zpf) (λe=>K .ret (z82 e))) (f65t14 N a b c d _) (by kernel_rfl)
def f65t11 N a b c (K:KT ρ):=vQ (λk=>z0m.Z12 N a b c k) (f65t12 N a b c _) (fx4 λd a b c=>f65t13 N d a b c K)
def f65t25 N  (K:KT ρ):f65j N 31 zpf f65lE K =
 z0m.Z25 N (λa=>K .ret (z82 a)):=by kernel_rfl
def f65t10 N a b c (K:KT ρ):=vQ (λk=>z0m.Z11 N a b c k (λd=>K .ret (z82 d))) (f65t11 N a b c _) (f65t25 N K)
def f65t4 N a b c (K:KT ρ):=vQ (λk=>z0m.Z5 N a b c k (λd=>K .ret (z82 d))) (f65t5 N a b c _) (fx3 λa b c=>f65t10 N a b c K)
def f65t2 N a b c (K:KT ρ):=vQ (λk=>z0m.Z3 N a b c k (λd=>K .ret (z82 d))) (f65t3 N a b c _) (fx3 λa b c=>f65t4 N a b c K)
def f65t0 N a (K:KT ρ):=vQ (λk=>z0m.Z1 N a k) (f65t1 N a _) (fx3 λb c d=>f65t2 N b c d K)
def f65ok(h:z0m.Spec):z0a Tryz.prog 65 e65 :=
 okC Tryz.func65 z2t f65GOk (λN X K=>f65t0 N X.1 K) (by kernel_rfl) λX hb hp=>by
  obtain⟨a,_⟩:=X
  obtain⟨N,h⟩:=h a hb.1
  exact⟨N,Eq.trans (by kernel_rfl) (h N (Nat.le_refl N))⟩
def e65ok:z0a Tryz.prog 65 e65:=f65ok z0m.ok
end Go.Fw
namespace Go.Fw
variable {ρ : Type}
open Go.Proofs
def f72sig:Sig:=⟨[⟨.sl 3 (.int .i64),false,false⟩,⟨.int .i64,false,false⟩],[⟨.bool,false,false⟩]⟩
def e72:z29:=⟨f72sig,none,λX=>((),((z1z.g X.1 X.2.1),()))⟩
def f72G:Gm:=z1r
def f72GOk:GOk Tryz.prog f72G:=GOk.nil
def f72lE:z00:=⟨[],[],[],[],[]⟩
def f72s0(a:LI)(b:Int):St:=z1p f72sig.ps (a,(b,()))
def f72s1(a:LI)(b:Int):St:=z14 [(0,.c (.sn 3 tI a none)),(1,xi b)] [] []
def f72l1:z00:=⟨[0,1],[],[],[],[]⟩
def f72s2(a:LI)(b d:Int):St:=z14 [(0,.c (.sn 3 tI a none)),(1,xi b),(5,xi d)] [] []
def f72l2:z00:=⟨[0,1,5],[],[],[],[]⟩
def zs5 :St:=z14 [] [] []
def f72l3:z00:=⟨[],[],[],[],[]⟩
def zpe(a:Bool):St:=z14 [(4,xB a)] [] []
def f72l4:z00:=⟨[4],[],[],[],[]⟩
def f72B:Nat->Option z00:=z1b [(0,f72l3),(1000000,f72l4)]
abbrev f72j{ρ:Type}(N n:Nat)(σ:St)(l:z00)(K:KT ρ):Option ρ:=z0r f72G tab f72B N (z2q 99 (z1s Tryz.f72) n) .n σ (z16 (some l) K)
def f72t1 N a b (K:KT ρ):f72j N 2 (f72s0 a b) f72l1 K =
 z1z.Z1 N a b (λa b=>K .nrm (f72s1 a b)):=by kernel_rfl
def f72t4 N a b (K:KT ρ):f72j N 9 (f72s1 a b) f72l2 K =
 z1z.Z4 N a b (λa b c=>K .nrm (f72s2 a b c)):=by kernel_rfl
def f72t7 N a b c (K:KT ρ):f72j N 37 (f72s2 a b c) f72l2 K =
 z1z.Z7 N a b c (λa b c=>K .nrm (f72s2 a b c)) (K (.exit 0) zs5) (λd=>K .ret (zpe d)):=by kernel_rfl
def f72t6L N (K:KT ρ):=lp3 K (z1z.Z6L N (K (.exit 0) zs5) (λa=>K .ret (zpe a))) (λb c d k=>z1z.Z7 N b c d k (K (.exit 0) zs5) (λa=>K .ret (zpe a))) (λF b c d=>f72t7 N b c d _) (by kernel_rfl)
def f72t6 N a b c (K:KT ρ):=vL (f72s2 a b c) (f72t6L N (jK f72l3 K) N a b c) (by kernel_rfl)
def f72t5 N a b c (K:KT ρ):=vB 0 f72l3 K (z1z.Z5 N a b c (K .nrm zs5) (λd=>K .ret (zpe d))) (f72t6 N a b c _) (by kernel_rfl)
def f72t3 N a b (K:KT ρ):=vQ (λk=>z1z.Z4 N a b k) (f72t4 N a b _) (fx3 λa b c=>f72t5 N a b c K)
def f72t8 N  (K:KT ρ):f72j N 7 zs5 f72lE K =
 z1z.Z8 N (λa=>K .ret (zpe a)):=by kernel_rfl
def f72t2 N a b (K:KT ρ):=vQ (λk=>z1z.Z3 N a b k (λc=>K .ret (zpe c))) (f72t3 N a b _) (f72t8 N K)
def f72t0 N a b (K:KT ρ):=vQ (λk=>z1z.Z1 N a b k) (f72t1 N a b _) (fx2 λa b=>f72t2 N a b K)
def f72ok(h:z1z.Spec):z0a Tryz.prog 72 e72 :=
 okC Tryz.func72 z2t f72GOk (λN X K=>f72t0 N X.1 X.2.1 K) (by kernel_rfl) λX hb hp=>by
  obtain⟨a,b,_⟩:=X
  obtain⟨N,h⟩:=h a b hb.1
  exact⟨N,Eq.trans (by kernel_rfl) (h N (Nat.le_refl N))⟩
def e72ok:z0a Tryz.prog 72 e72:=f72ok z1z.ok
end Go.Fw
namespace Go.Fw
variable {ρ : Type}
open Go.Proofs
def f73sig:Sig:=⟨[⟨.pair (.int .i64) (.pair (.int .i64) (.sl 3 (.int .i64))),true,false⟩,⟨.int .i64,false,false⟩],[⟨.sl 3 (.int .i64),false,false⟩,⟨.sl 3 (.int .i64),false,false⟩]⟩
def e73:z29:=⟨f73sig,(some λX=>z0p.P X.1 X.2.1),λX=>((),((z0p.g X.1 X.2.1).1,((z0p.g X.1 X.2.1).2,())))⟩
def f73G:Gm:=z3q (z3q z1r 72 e72) 105 e105
def f73GOk:GOk Tryz.prog f73G:=((GOk.nil).add e72ok (by kernel_rfl)).add zkb (by kernel_rfl)
def f73lE:z00:=⟨[],[],[],[],[]⟩
def f73s0(a:MT)(b:Int):St:=z1p f73sig.ps (a,(b,()))
def f73s1(a b c:Int)(d:LI):St:=z14 [(1,xi a),(2,xb 2)] [(2,(27,[yi b,yi c,.sn 3 tI d none]))] []
def f73l1:z00:=⟨[1,2],[2],[],[],[]⟩
def f73s2(a:LI)(b c d:Int)(e:LI):St:=z14 [(1,xi b),(2,xb 2),(6,xo 1000384)] [(2,(27,[yi c,yi d,.sn 3 tI e none]))] [(1000384,(⟨3,.int .i64,a,true,false⟩:Row))]
def f73l2:z00:=⟨[1,2,6],[2],[],[],[(⟨false,6,0⟩,1000384)]⟩
def f73s3(a b:LI)(c d:Int)(e:LI):St:=z14 [(2,xb 2),(6,xo 1000384),(7,xo 1000448)] [(2,(27,[yi c,yi d,.sn 3 tI e none]))] [(1000384,(⟨3,.int .i64,a,true,false⟩:Row)),(1000448,(⟨3,.int .i64,b,true,false⟩:Row))]
def f73l3:z00:=⟨[2,6,7],[2],[],[],[(⟨false,6,0⟩,1000384),(⟨false,7,0⟩,1000448)]⟩
def zd0(a b:LI)(c d e:Int)(f:LI):St:=z14 [(2,xb 2),(6,xo 1000384),(7,xo 1000448),(8,xi c)] [(2,(27,[yi d,yi e,.sn 3 tI f none]))] [(1000384,(⟨3,.int .i64,a,true,false⟩:Row)),(1000448,(⟨3,.int .i64,b,true,false⟩:Row))]
def zjt:z00:=⟨[2,6,7,8],[2],[],[],[(⟨false,6,0⟩,1000384),(⟨false,7,0⟩,1000448)]⟩
def f73s5(a b:LI)(c d e f:Int)(g:LI):St:=z14 [(2,xb 2),(6,xo 1000384),(7,xo 1000448),(8,xi c),(9,xi d)] [(2,(27,[yi e,yi f,.sn 3 tI g none]))] [(1000384,(⟨3,.int .i64,a,true,false⟩:Row)),(1000448,(⟨3,.int .i64,b,true,false⟩:Row))]
def f73l5:z00:=⟨[2,6,7,8,9],[2],[],[],[(⟨false,6,0⟩,1000384),(⟨false,7,0⟩,1000448)]⟩
def zpd(a b:LI):St:=z14 [(6,xo 1000384),(7,xo 1000448)] [] [(1000384,(⟨3,.int .i64,a,true,false⟩:Row)),(1000448,(⟨3,.int .i64,b,true,false⟩:Row))]
def f73l6:z00:=⟨[6,7],[],[],[],[(⟨false,6,0⟩,1000384),(⟨false,7,0⟩,1000448)]⟩
def f73s7(a b:LI):St:=z14 [(4,xo 1000256),(5,xo 1000320)] [] [(1000256,(⟨3,.int .i64,a,true,false⟩:Row)),(1000320,(⟨3,.int .i64,b,true,false⟩:Row))]
def f73l7:z00:=⟨[4,5],[],[],[],[(⟨false,4,0⟩,1000256),(⟨false,5,0⟩,1000320)]⟩
def f73B:Nat->Option z00:=z1b [(2,zjt),(1,zjt),(0,f73l6),(1000000,f73l7)]
abbrev f73j{ρ:Type}(N n:Nat)(σ:St)(l:z00)(K:KT ρ):Option ρ:=z0r f73G tab f73B N (z2q 99 (z1s Tryz.f73) n) .n σ (z16 (some l) K)
def f73t1 N b a (K:KT ρ):f73j N 2 (f73s0 b a) f73l1 K =
 z0p.Z1 N b a (λa c d e=>K .nrm (f73s1 a c d e)):=by kernel_rfl
def f73t3 N a b c d (K:KT ρ):f73j N 5 (f73s1 a b c d) f73l2 K =
 z0p.Z3 N a b c d (λe a b c d=>K .nrm (f73s2 e a b c d)):=by kernel_rfl
def f73t5 N a e b c d (K:KT ρ):f73j N 11 (f73s2 a e b c d) f73l3 K =
 z0p.Z5 N a e b c d (λa f b c d=>K .nrm (f73s3 a f b c d)):=by kernel_rfl
def f73t8 N a b c d e (K:KT ρ):f73j N 39 (f73s3 a b c d e) zjt K =
 z0p.Z8 N a b c d e (λa b f c d e=>K .nrm (zd0 a b f c d e)):=by kernel_rfl
def f73t12 N a b c d e f (K:KT ρ):f73j N 279 (zd0 a b c d e f) zjt K =
 z0p.Z12 N a b c d e f (λa b c d e f=>K .nrm (zd0 a b c d e f)) (λa b=>K (.exit 0) (zpd a b)):=by kernel_rfl
def f73t16 N a b c d e f (K:KT ρ):f73j N 2199 (zd0 a b c d e f) f73l5 K =
 z0p.Z16 N a b c d e f (λa b c g d e f=>K .nrm (f73s5 a b c g d e f)):=by kernel_rfl
def f73t19 N a b c g d e f (K:KT ρ):f73j N 9367 (f73s5 a b c g d e f) f73l5 K =
 z0p.Z19 N a b c g d e f (λa b c g d e f=>K .nrm (f73s5 a b c g d e f)) (λa b c d e f=>K (.exit 2) (zd0 a b c d e f)):=by kernel_rfl
def f73t18L N (K:KT ρ):=lp7 K (z0p.Z18L N (λa b c d e f=>K (.exit 2) (zd0 a b c d e f))) (λa b c g d e f k=>z0p.Z19 N a b c g d e f k (λa b c d e f=>K (.exit 2) (zd0 a b c d e f))) (λF a b c g d e f=>f73t19 N a b c g d e f _) (by kernel_rfl)
def f73t18 N a b c d e f g (K:KT ρ):=vL (f73s5 a b c d e f g) (f73t18L N (jK zjt K) N a b c d e f g) (by kernel_rfl)
def f73t17 N a b c g d e f (K:KT ρ):=vB 2 zjt K (z0p.Z17 N a b c g d e f (λa b c d e f=>K .nrm (zd0 a b c d e f))) (f73t18 N a b c g d e f _) (by kernel_rfl)
def f73t15 N a b c d e f (K:KT ρ):=vQ (λk=>z0p.Z16 N a b c d e f k) (f73t16 N a b c d e f _) (fx7 λa b c g d e f=>f73t17 N a b c g d e f K)
def f73t14 N a b c d e f (K:KT ρ):=vB 1 zjt K (z0p.Z14 N a b c d e f (λa b c d e f=>K .nrm (zd0 a b c d e f))) (f73t15 N a b c d e f _) (by kernel_rfl)
def f73t20 N a b c d e f (K:KT ρ):f73j N 919 (zd0 a b c d e f) zjt K =
 z0p.Z20 N a b c d e f (λa b c d e f=>K .nrm (zd0 a b c d e f)):=by kernel_rfl
def f73t13 N a b c d e f (K:KT ρ):=vQ (λk=>z0p.Z14 N a b c d e f k) (f73t14 N a b c d e f _) (fx6 λa b c d e f=>f73t20 N a b c d e f K)
def f73t11 N a b c d e f (K:KT ρ):=vQ (λk=>z0p.Z12 N a b c d e f k (λa b=>K (.exit 0) (zpd a b))) (f73t12 N a b c d e f _) (fx6 λa b c d e f=>f73t13 N a b c d e f K)
def f73t10L N (K:KT ρ):=lp6 K (z0p.Z10L N (λa b=>K (.exit 0) (zpd a b))) (λa b c d e f k=>z0p.Z11 N a b c d e f k (λa b=>K (.exit 0) (zpd a b))) (λF a b c d e f=>f73t11 N a b c d e f _) (by kernel_rfl)
def f73t10 N a b c d e f (K:KT ρ):=vL (zd0 a b c d e f) (f73t10L N (jK f73l6 K) N a b c d e f) (by kernel_rfl)
def f73t9 N a b c d e f (K:KT ρ):=vB 0 f73l6 K (z0p.Z9 N a b c d e f (λa b=>K .nrm (zpd a b))) (f73t10 N a b c d e f _) (by kernel_rfl)
def f73t7 N a b c d e (K:KT ρ):=vQ (λk=>z0p.Z8 N a b c d e k) (f73t8 N a b c d e _) (fx6 λa b f c d e=>f73t9 N a b f c d e K)
def f73t21 N a b (K:KT ρ):f73j N 31 (zpd a b) f73lE K =
 z0p.Z21 N a b (λc d=>K .ret (f73s7 c d)):=by kernel_rfl
def f73t6 N a b c d e (K:KT ρ):=vQ (λk=>z0p.Z7 N a b c d e k) (f73t7 N a b c d e _) (fx2 λa b=>f73t21 N a b K)
def f73t4 N a e b c d (K:KT ρ):=vQ (λk=>z0p.Z5 N a e b c d k) (f73t5 N a e b c d _) (fx5 λa f b c d=>f73t6 N a f b c d K)
def f73t2 N a b c d (K:KT ρ):=vQ (λk=>z0p.Z3 N a b c d k) (f73t3 N a b c d _) (fx5 λe a b c d=>f73t4 N e a b c d K)
def f73t0 N b a (K:KT ρ):=vQ (λk=>z0p.Z1 N b a k) (f73t1 N b a _) (fx4 λa c d e=>f73t2 N a c d e K)
def f73ok(h:z0p.Spec):z0a Tryz.prog 73 e73 :=
 okC Tryz.func73 z2t f73GOk (λN X K=>f73t0 N X.1 X.2.1 K) (by kernel_rfl) λX hb hp=>by
  obtain⟨a,b,_⟩:=X
  obtain⟨N,h⟩:=h a b hb.1 hp
  exact⟨N,Eq.trans (by kernel_rfl) (h N (Nat.le_refl N))⟩
def e73ok:z0a Tryz.prog 73 e73:=f73ok z0p.ok
end Go.Fw
namespace Go.Fw
variable {ρ : Type}
open Go.Proofs
def zt8:Sig:=⟨[⟨.int .i64,false,false⟩],[⟨.int .i64,false,false⟩]⟩
def e106:z29:=⟨zt8,none,λX=>((),((z2w.g X.1),()))⟩
def f106G:Gm:=z1r
def f106GOk:GOk Tryz.prog f106G:=GOk.nil
def f106lE:z00:=⟨[],[],[],[],[]⟩
def f106s0(a:Int):St:=z1p zt8.ps (a,())
def f106s1(a:Int):St:=z14 [(2,xi a)] [] []
def f106l1:z00:=⟨[2],[],[],[],[]⟩
def f106B:Nat->Option z00:=z1b [(1000000,f106l1)]
abbrev f106j{ρ:Type}(N n:Nat)(σ:St)(l:z00)(K:KT ρ):Option ρ:=z0r f106G tab f106B N (z2q 99 (z1s Tryz.f106) n) .n σ (z16 (some l) K)
def f106t0 N a (K:KT ρ):f106j N 1 (f106s0 a) f106lE K =
 z2w.Z0 N a (λb=>K .ret (f106s1 b)):=by kernel_rfl
def f106ok(h:z2w.Spec):z0a Tryz.prog 106 e106 :=
 okC Tryz.func106 z2t f106GOk (λN X K=>f106t0 N X.1 K) (by kernel_rfl) λX hb hp=>by
  obtain⟨a,_⟩:=X
  obtain⟨N,h⟩:=h a
  exact⟨N,Eq.trans (by kernel_rfl) (h N (Nat.le_refl N))⟩
def e106ok:z0a Tryz.prog 106 e106:=f106ok z2w.ok
end Go.Fw
namespace Go.Fw
variable {ρ : Type}
open Go.Proofs
def zt6:Sig:=⟨[⟨.int .i64,false,false⟩,⟨.int .i64,false,false⟩],[⟨.int .i64,false,false⟩]⟩
def e107:z29:=⟨zt6,(some λX=>z2g.P X.1 X.2.1),λX=>((),((z2g.g X.1 X.2.1),()))⟩
def f107G:Gm:=z1r
def f107GOk:GOk Tryz.prog f107G:=GOk.nil
def f107lE:z00:=⟨[],[],[],[],[]⟩
def f107s0(a b:Int):St:=z1p zt6.ps (a,(b,()))
def znx(a b:Int):St:=z14 [(0,xi a),(1,xi b)] [] []
def f107l1:z00:=⟨[0,1],[],[],[],[]⟩
def zk9(a:Int):St:=z14 [(0,xi a)] [] []
def zt7:z00:=⟨[0],[],[],[],[]⟩
def f107s3(a:Int):St:=z14 [(4,xi a)] [] []
def f107l3:z00:=⟨[4],[],[],[],[]⟩
def f107B:Nat->Option z00:=z1b [(0,zt7),(1000000,f107l3)]
abbrev f107j{ρ:Type}(N n:Nat)(σ:St)(l:z00)(K:KT ρ):Option ρ:=z0r f107G tab f107B N (z2q 99 (z1s Tryz.f107) n) .n σ (z16 (some l) K)
def f107t1 N a b (K:KT ρ):f107j N 2 (f107s0 a b) f107l1 K =
 z2g.Z1 N a b (λa b=>K .nrm (znx a b)):=by kernel_rfl
def f107t5 N a b (K:KT ρ):f107j N 17 (znx a b) f107l1 K =
 z2g.Z5 N a b (λa b=>K .nrm (znx a b)) (λa=>K (.exit 0) (zk9 a)):=by kernel_rfl
def f107t4L N (K:KT ρ):=lp2 K (z2g.Z4L N (λa=>K (.exit 0) (zk9 a))) (λa b k=>z2g.Z5 N a b k (λa=>K (.exit 0) (zk9 a))) (λF a b=>f107t5 N a b _) (by kernel_rfl)
def f107t4 N a b (K:KT ρ):=vL (znx a b) (f107t4L N (jK zt7 K) N a b) (by kernel_rfl)
def f107t3 N a b (K:KT ρ):=vB 0 zt7 K (z2g.Z3 N a b (λa=>K .nrm (zk9 a))) (f107t4 N a b _) (by kernel_rfl)
def f107t6 N a (K:KT ρ):f107j N 7 (zk9 a) f107lE K =
 z2g.Z6 N a (λb=>K .ret (f107s3 b)):=by kernel_rfl
def f107t2 N a b (K:KT ρ):=vQ (λk=>z2g.Z3 N a b k) (f107t3 N a b _) (funext λa=>f107t6 N a K)
def f107t0 N a b (K:KT ρ):=vQ (λk=>z2g.Z1 N a b k) (f107t1 N a b _) (fx2 λa b=>f107t2 N a b K)
def f107ok(h:z2g.Spec):z0a Tryz.prog 107 e107 :=
 okC Tryz.func107 z2t f107GOk (λN X K=>f107t0 N X.1 X.2.1 K) (by kernel_rfl) λX hb hp=>by
  obtain⟨a,b,_⟩:=X
  obtain⟨N,h⟩:=h a b hp
  exact⟨N,Eq.trans (by kernel_rfl) (h N (Nat.le_refl N))⟩
def e107ok:z0a Tryz.prog 107 e107:=f107ok z2g.ok
end Go.Fw
namespace Go.Fw
variable {ρ : Type}
open Go.Proofs
def f66sig:Sig:=⟨[⟨.pair (.int .i64) (.pair (.int .i64) (.sl 3 (.int .i64))),true,false⟩],[⟨.sl 3 (.int .i64),false,false⟩,⟨.bool,false,false⟩]⟩
def e66:z29:=⟨f66sig,(some λX=>z02.P X.1),λX=>((),((z02.g X.1).1,((z02.g X.1).2,())))⟩
def f66G:Gm:=z3q (z3q (z3q (z3q z1r 73 e73) 105 e105) 106 e106) 107 e107
def f66GOk:GOk Tryz.prog f66G:=((((GOk.nil).add e73ok (by kernel_rfl)).add zkb (by kernel_rfl)).add e106ok (by kernel_rfl)).add e107ok (by kernel_rfl)
def f66lE:z00:=⟨[],[],[],[],[]⟩
def f66s0(a:MT):St:=z1p f66sig.ps (a,())
def f66s1(a b:Int)(c:LI):St:=z14 [(1,xb 1)] [(1,(27,[yi a,yi b,.sn 3 tI c none]))] []
def f66l1:z00:=⟨[1],[1],[],[],[]⟩
def zju(a:LI)(b c:Int)(d:LI):St:=z14 [(1,xb 1),(4,xo 1000256)] [(1,(27,[yi b,yi c,.sn 3 tI d none]))] [(1000256,(⟨3,.int .i64,a,true,false⟩:Row))]
def f66l2:z00:=⟨[1,4],[1],[],[],[(⟨false,4,0⟩,1000256)]⟩
def z9c(a:LI)(b c d:Int)(e:LI):St:=z14 [(1,xb 1),(4,xo 1000256),(5,xi b)] [(1,(27,[yi c,yi d,.sn 3 tI e none]))] [(1000256,(⟨3,.int .i64,a,true,false⟩:Row))]
def zhf:z00:=⟨[1,4,5],[1],[],[],[(⟨false,4,0⟩,1000256)]⟩
def zhe(a b c:LI)(d e f:Int)(g:LI):St:=z14 [(1,xb 1),(4,xo 1000256),(5,xi d),(6,xo 1000384),(7,xo 1000448)] [(1,(27,[yi e,yi f,.sn 3 tI g none]))] [(1000256,(⟨3,.int .i64,a,true,false⟩:Row)),(1000384,(⟨3,.int .i64,b,true,false⟩:Row)),(1000448,(⟨3,.int .i64,c,true,false⟩:Row))]
def zs7:z00:=⟨[1,4,5,6,7],[1],[],[],[(⟨false,4,0⟩,1000256),(⟨false,6,0⟩,1000384),(⟨false,7,0⟩,1000448)]⟩
def f66s5(a b c:LI)(d e f g:Int)(h:LI):St:=z14 [(1,xb 1),(4,xo 1000256),(5,xi d),(6,xo 1000384),(7,xo 1000448),(8,xi e)] [(1,(27,[yi f,yi g,.sn 3 tI h none]))] [(1000256,(⟨3,.int .i64,a,true,false⟩:Row)),(1000384,(⟨3,.int .i64,b,true,false⟩:Row)),(1000448,(⟨3,.int .i64,c,true,false⟩:Row))]
def f66l5:z00:=⟨[1,4,5,6,7,8],[1],[],[],[(⟨false,4,0⟩,1000256),(⟨false,6,0⟩,1000384),(⟨false,7,0⟩,1000448)]⟩
def f66s6(a b c:LI)(d e f g:Int)(h:LI):St:=z14 [(1,xb 1),(4,xo 1000256),(5,xi d),(6,xo 1000384),(7,xo 1000448),(9,xi e)] [(1,(27,[yi f,yi g,.sn 3 tI h none]))] [(1000256,(⟨3,.int .i64,a,true,false⟩:Row)),(1000384,(⟨3,.int .i64,b,true,false⟩:Row)),(1000448,(⟨3,.int .i64,c,true,false⟩:Row))]
def f66l6:z00:=⟨[1,4,5,6,7,9],[1],[],[],[(⟨false,4,0⟩,1000256),(⟨false,6,0⟩,1000384),(⟨false,7,0⟩,1000448)]⟩
def f66s7(a b c:LI)(d e f g h:Int)(i:LI):St:=z14 [(1,xb 1),(4,xo 1000256),(5,xi d),(6,xo 1000384),(7,xo 1000448),(9,xi e),(10,xi f)] [(1,(27,[yi g,yi h,.sn 3 tI i none]))] [(1000256,(⟨3,.int .i64,a,true,false⟩:Row)),(1000384,(⟨3,.int .i64,b,true,false⟩:Row)),(1000448,(⟨3,.int .i64,c,true,false⟩:Row))]
def f66l7:z00:=⟨[1,4,5,6,7,9,10],[1],[],[],[(⟨false,4,0⟩,1000256),(⟨false,6,0⟩,1000384),(⟨false,7,0⟩,1000448)]⟩
def zs6(a b:LI)(c d e f:Int)(g:LI):St:=z14 [(1,xb 1),(4,xo 1000256),(5,xi c),(6,xo 1000384),(9,xi d)] [(1,(27,[yi e,yi f,.sn 3 tI g none]))] [(1000256,(⟨3,.int .i64,a,true,false⟩:Row)),(1000384,(⟨3,.int .i64,b,true,false⟩:Row))]
def f66l8:z00:=⟨[1,4,5,6,9],[1],[],[],[(⟨false,4,0⟩,1000256),(⟨false,6,0⟩,1000384)]⟩
def f66s9(a b:LI)(c d e f g:Int)(h:LI):St:=z14 [(1,xb 1),(4,xo 1000256),(5,xi c),(6,xo 1000384),(9,xi d),(11,xi e)] [(1,(27,[yi f,yi g,.sn 3 tI h none]))] [(1000256,(⟨3,.int .i64,a,true,false⟩:Row)),(1000384,(⟨3,.int .i64,b,true,false⟩:Row))]
def f66l9:z00:=⟨[1,4,5,6,9,11],[1],[],[],[(⟨false,4,0⟩,1000256),(⟨false,6,0⟩,1000384)]⟩
def z7v(a:LI)(b c d:Int)(e:LI):St:=z14 [(1,xb 1),(4,xo 1000256),(12,xi b)] [(1,(27,[yi c,yi d,.sn 3 tI e none]))] [(1000256,(⟨3,.int .i64,a,true,false⟩:Row))]
def zcl:z00:=⟨[1,4,12],[1],[],[],[(⟨false,4,0⟩,1000256)]⟩
def znm(a:LI)(b c d e:Int)(f:LI):St:=z14 [(1,xb 1),(4,xo 1000256),(12,xi b),(13,xi c)] [(1,(27,[yi d,yi e,.sn 3 tI f none]))] [(1000256,(⟨3,.int .i64,a,true,false⟩:Row))]
def f66l11:z00:=⟨[1,4,12,13],[1],[],[],[(⟨false,4,0⟩,1000256)]⟩
def zfy(a:LI):St:=z14 [(4,xo 1000256)] [] [(1000256,(⟨3,.int .i64,a,true,false⟩:Row))]
def zs8:z00:=⟨[4],[],[],[],[(⟨false,4,0⟩,1000256)]⟩
def z8k(a:LI)(b:Bool):St:=z14 [(2,xo 1000128),(3,xB b)] [] [(1000128,(⟨3,.int .i64,a,true,false⟩:Row))]
def f66l13:z00:=⟨[2,3],[],[⟨⟨false,2,0⟩,30000000,3,.int .i64,true⟩],[],[(⟨false,2,0⟩,1000128)]⟩
def f66B:Nat->Option z00:=z1b [(2,zs7),(4,f66l8),(6,zhf),(1,zhf),(0,f66l2),(10,zcl),(9,zcl),(8,zs8),(1000000,f66l13)]
abbrev zf0{ρ:Type}(N n:Nat)(σ:St)(l:z00)(K:KT ρ):Option ρ:=z0r f66G tab f66B N (z2q 99 (z1s Tryz.f66) n) .n σ (z16 (some l) K)
def f66t1 N a (K:KT ρ):zf0 N 2 (f66s0 a) f66l1 K =
 z02.Z1 N a (λb c d=>K .nrm (f66s1 b c d)):=by kernel_rfl
def f66t3 N a b c (K:KT ρ):zf0 N 5 (f66s1 a b c) f66l2 K =
 z02.Z3 N a b c (λd a b c=>K .nrm (zju d a b c)):=by kernel_rfl
def f66t6 N a b c d (K:KT ρ):zf0 N 19 (zju a b c d) zhf K =
 z02.Z6 N a b c d (λa e b c d=>K .nrm (z9c a e b c d)):=by kernel_rfl
def f66t10 N a e b c d (K:KT ρ):zf0 N 139 (z9c a e b c d) zhf K =
 z02.Z10 N a e b c d (λa e b c d=>K .nrm (z9c a e b c d)) (λa b c d=>K (.exit 0) (zju a b c d)):=by kernel_rfl
def f66t14 N a b c d e (K:KT ρ):zf0 N 1099 (z9c a b c d e) zhf K =
 z02.Z14 N a b c d e (λa b c d e=>K .nrm (z9c a b c d e)) (λa b c d e=>K (.exit 1) (z9c a b c d e)):=by kernel_rfl
def f66t16 N a b c d e (K:KT ρ):zf0 N 2635 (z9c a b c d e) zs7 K =
 z02.Z16 N a b c d e (λa f g b c d e=>K .nrm (zhe a f g b c d e)):=by kernel_rfl
def f66t18 N a b c d e f g (K:KT ρ):zf0 N 5707 (zhe a b c d e f g) zs7 K =
 z02.Z18 N a b c d e f g (λa b c d e f g=>K .nrm (zhe a b c d e f g)):=by kernel_rfl
def f66t21 N a b c d e f g (K:KT ρ):zf0 N 20043 (zhe a b c d e f g) f66l5 K =
 z02.Z21 N a b c d e f g (λa b c d h e f g=>K .nrm (f66s5 a b c d h e f g)):=by kernel_rfl
def f66t24 N a b c d h e f g (K:KT ρ):zf0 N 77387 (f66s5 a b c d h e f g) f66l5 K =
 z02.Z24 N a b c d h e f g (λa b c d h e f g=>K .nrm (f66s5 a b c d h e f g)) (λa b c d e f g=>K (.exit 2) (zhe a b c d e f g)):=by kernel_rfl
def f66t23L N (K:KT ρ):=lp8 K (z02.Z23L N (λa b c d e f g=>K (.exit 2) (zhe a b c d e f g))) (λa b c d h e f g k=>z02.Z24 N a b c d h e f g k (λa b c d e f g=>K (.exit 2) (zhe a b c d e f g))) (λF a b c d h e f g=>f66t24 N a b c d h e f g _) (by kernel_rfl)
def f66t23 N a b c d e f g h (K:KT ρ):=vL (f66s5 a b c d e f g h) (f66t23L N (jK zs7 K) N a b c d e f g h) (by kernel_rfl)
def f66t22 N a b c d h e f g (K:KT ρ):=vB 2 zs7 K (z02.Z22 N a b c d h e f g (λa b c d e f g=>K .nrm (zhe a b c d e f g))) (f66t23 N a b c d h e f g _) (by kernel_rfl)
def f66t20 N a b c d e f g (K:KT ρ):=vQ (λk=>z02.Z21 N a b c d e f g k) (f66t21 N a b c d e f g _) (fx8 λa b c d h e f g=>f66t22 N a b c d h e f g K)
def f66t26 N a b c d e f g (K:KT ρ):zf0 N 24139 (zhe a b c d e f g) f66l6 K =
 z02.Z26 N a b c d e f g (λa b c d h e f g=>K .nrm (f66s6 a b c d h e f g)):=by kernel_rfl
def f66t29 N a b c d e f g h (K:KT ρ):zf0 N 81483 (f66s6 a b c d e f g h) f66l7 K =
 z02.Z29 N a b c d e f g h (λa b c d e i f g h=>K .nrm (f66s7 a b c d e i f g h)):=by kernel_rfl
def f66t32 N a b h c d i e f g (K:KT ρ):zf0 N 310859 (f66s7 a b h c d i e f g) f66l7 K =
 z02.Z32 N a b h c d i e f g (λa b h c d i e f g=>K .nrm (f66s7 a b h c d i e f g)) (λa b c d e f g=>K (.exit 4) (zs6 a b c d e f g)):=by kernel_rfl
def f66t31L N (K:KT ρ):=lp9 K (z02.Z31L N (λa b c d e f g=>K (.exit 4) (zs6 a b c d e f g))) (λa b h c d i e f g k=>z02.Z32 N a b h c d i e f g k (λa b c d e f g=>K (.exit 4) (zs6 a b c d e f g))) (λF a b h c d i e f g=>f66t32 N a b h c d i e f g _) (by kernel_rfl)
def f66t31 N a b c d e f g h i (K:KT ρ):=vL (f66s7 a b c d e f g h i) (f66t31L N (jK f66l8 K) N a b c d e f g h i) (by kernel_rfl)
def f66t30 N a b h c d i e f g (K:KT ρ):=vB 4 f66l8 K (z02.Z30 N a b h c d i e f g (λa b c d e f g=>K .nrm (zs6 a b c d e f g))) (f66t31 N a b h c d i e f g _) (by kernel_rfl)
def f66t28 N a b c d e f g h (K:KT ρ):=vQ (λk=>z02.Z29 N a b c d e f g h k) (f66t29 N a b c d e f g h _) (fx9 λa b c d e i f g h=>f66t30 N a b c d e i f g h K)
def f66t34 N a b c d e f g (K:KT ρ):zf0 N 97867 (zs6 a b c d e f g) f66l9 K =
 z02.Z34 N a b c d e f g (λa b c d h e f g=>K .nrm (f66s9 a b c d h e f g)):=by kernel_rfl
def f66t37 N a f b g h c d e (K:KT ρ):zf0 N 327243 (f66s9 a f b g h c d e) f66l9 K =
 z02.Z37 N a f b g h c d e (λa f b g h c d e=>K .nrm (f66s9 a f b g h c d e)) (λa b c d e=>K (.exit 6) (z9c a b c d e)):=by kernel_rfl
def f66t36L N (K:KT ρ):=lp8 K (z02.Z36L N (λa b c d e=>K (.exit 6) (z9c a b c d e))) (λa f b g h c d e k=>z02.Z37 N a f b g h c d e k (λa b c d e=>K (.exit 6) (z9c a b c d e))) (λF a f b g h c d e=>f66t37 N a f b g h c d e _) (by kernel_rfl)
def f66t36 N a b c d e f g h (K:KT ρ):=vL (f66s9 a b c d e f g h) (f66t36L N (jK zhf K) N a b c d e f g h) (by kernel_rfl)
def f66t35 N a f b g h c d e (K:KT ρ):=vB 6 zhf K (z02.Z35 N a f b g h c d e (λa b c d e=>K .nrm (z9c a b c d e))) (f66t36 N a f b g h c d e _) (by kernel_rfl)
def f66t33 N a b c d e f g (K:KT ρ):=vQ (λk=>z02.Z34 N a b c d e f g k) (f66t34 N a b c d e f g _) (fx8 λa b c d h e f g=>f66t35 N a b c d h e f g K)
def f66t27 N a b h c d e f g (K:KT ρ):=vQ (λk=>z02.Z28 N a b h c d e f g k) (f66t28 N a b h c d e f g _) (fx7 λa b c d e f g=>f66t33 N a b c d e f g K)
def f66t25 N a b c d e f g (K:KT ρ):=vQ (λk=>z02.Z26 N a b c d e f g k) (f66t26 N a b c d e f g _) (fx8 λa b c d h e f g=>f66t27 N a b c d h e f g K)
def f66t19 N a b c d e f g (K:KT ρ):=vQ (λk=>z02.Z20 N a b c d e f g k) (f66t20 N a b c d e f g _) (fx7 λa b c d e f g=>f66t25 N a b c d e f g K)
def f66t17 N a b c d e f g (K:KT ρ):=vQ (λk=>z02.Z18 N a b c d e f g k) (f66t18 N a b c d e f g _) (fx7 λa b c d e f g=>f66t19 N a b c d e f g K)
def f66t15 N a b c d e (K:KT ρ):=vQ (λk=>z02.Z16 N a b c d e k) (f66t16 N a b c d e _) (fx7 λa f g b c d e=>f66t17 N a f g b c d e K)
def f66t13 N a b c d e (K:KT ρ):=vQ (λk=>z02.Z14 N a b c d e k (λa b c d e=>K (.exit 1) (z9c a b c d e))) (f66t14 N a b c d e _) (fx5 λa b c d e=>f66t15 N a b c d e K)
def f66t12 N a b c d e (K:KT ρ):=vB 1 zhf K (z02.Z12 N a b c d e (λa b c d e=>K .nrm (z9c a b c d e))) (f66t13 N a b c d e _) (by kernel_rfl)
def f66t38 N a b c d e (K:KT ρ):zf0 N 459 (z9c a b c d e) zhf K =
 z02.Z38 N a b c d e (λa b c d e=>K .nrm (z9c a b c d e)):=by kernel_rfl
def f66t11 N a b c d e (K:KT ρ):=vQ (λk=>z02.Z12 N a b c d e k) (f66t12 N a b c d e _) (fx5 λa b c d e=>f66t38 N a b c d e K)
def f66t9 N a e b c d (K:KT ρ):=vQ (λk=>z02.Z10 N a e b c d k (λa b c d=>K (.exit 0) (zju a b c d))) (f66t10 N a e b c d _) (fx5 λa e b c d=>f66t11 N a e b c d K)
def f66t8L N (K:KT ρ):=lp5 K (z02.Z8L N (λa b c d=>K (.exit 0) (zju a b c d))) (λa e b c d k=>z02.Z9 N a e b c d k (λa b c d=>K (.exit 0) (zju a b c d))) (λF a e b c d=>f66t9 N a e b c d _) (by kernel_rfl)
def f66t8 N a b c d e (K:KT ρ):=vL (z9c a b c d e) (f66t8L N (jK f66l2 K) N a b c d e) (by kernel_rfl)
def f66t7 N a e b c d (K:KT ρ):=vB 0 f66l2 K (z02.Z7 N a e b c d (λa b c d=>K .nrm (zju a b c d))) (f66t8 N a e b c d _) (by kernel_rfl)
def f66t5 N a b c d (K:KT ρ):=vQ (λk=>z02.Z6 N a b c d k) (f66t6 N a b c d _) (fx5 λa e b c d=>f66t7 N a e b c d K)
def f66t41 N a b c d (K:KT ρ):zf0 N 39 (zju a b c d) zcl K =
 z02.Z41 N a b c d (λa e b c d=>K .nrm (z7v a e b c d)):=by kernel_rfl
def f66t45 N a b c d e (K:KT ρ):zf0 N 279 (z7v a b c d e) zcl K =
 z02.Z45 N a b c d e (λa b c d e=>K .nrm (z7v a b c d e)) (λa=>K (.exit 8) (zfy a)):=by kernel_rfl
def f66t49 N a b c d e (K:KT ρ):zf0 N 2199 (z7v a b c d e) f66l11 K =
 z02.Z49 N a b c d e (λa b f c d e=>K .nrm (znm a b f c d e)):=by kernel_rfl
def f66t52 N a b f c d e (K:KT ρ):zf0 N 9367 (znm a b f c d e) f66l11 K =
 z02.Z52 N a b f c d e (λa b f c d e=>K .nrm (znm a b f c d e)) (λa b c d e=>K (.exit 10) (z7v a b c d e)) (λg h=>K .ret (z8k g h)):=by kernel_rfl
def f66t51L N (K:KT ρ):=lp6 K (z02.Z51L N (λa b c d e=>K (.exit 10) (z7v a b c d e)) (λf g=>K .ret (z8k f g))) (λa b h c d e k=>z02.Z52 N a b h c d e k (λa b c d e=>K (.exit 10) (z7v a b c d e)) (λf g=>K .ret (z8k f g))) (λF a b h c d e=>f66t52 N a b h c d e _) (by kernel_rfl)
def f66t51 N a b c d e f (K:KT ρ):=vL (znm a b c d e f) (f66t51L N (jK zcl K) N a b c d e f) (by kernel_rfl)
def f66t50 N a b f c d e (K:KT ρ):=vB 10 zcl K (z02.Z50 N a b f c d e (λa b c d e=>K .nrm (z7v a b c d e)) (λg h=>K .ret (z8k g h))) (f66t51 N a b f c d e _) (by kernel_rfl)
def f66t48 N a b c d e (K:KT ρ):=vQ (λk=>z02.Z49 N a b c d e k) (f66t49 N a b c d e _) (fx6 λa b f c d e=>f66t50 N a b f c d e K)
def f66t47 N a b c d e (K:KT ρ):=vB 9 zcl K (z02.Z47 N a b c d e (λa b c d e=>K .nrm (z7v a b c d e)) (λf g=>K .ret (z8k f g))) (f66t48 N a b c d e _) (by kernel_rfl)
def f66t53 N a b c d e (K:KT ρ):zf0 N 919 (z7v a b c d e) zcl K =
 z02.Z53 N a b c d e (λa b c d e=>K .nrm (z7v a b c d e)):=by kernel_rfl
def f66t46 N a b c d e (K:KT ρ):=vQ (λk=>z02.Z47 N a b c d e k (λf g=>K .ret (z8k f g))) (f66t47 N a b c d e _) (fx5 λa b c d e=>f66t53 N a b c d e K)
def f66t44 N a b c d e (K:KT ρ):=vQ (λk=>z02.Z45 N a b c d e k (λa=>K (.exit 8) (zfy a))) (f66t45 N a b c d e _) (fx5 λa b c d e=>f66t46 N a b c d e K)
def f66t43L N (K:KT ρ):=lp5 K (z02.Z43L N (λa=>K (.exit 8) (zfy a)) (λb c=>K .ret (z8k b c))) (λa d e f g k=>z02.Z44 N a d e f g k (λa=>K (.exit 8) (zfy a)) (λb c=>K .ret (z8k b c))) (λF a d e f g=>f66t44 N a d e f g _) (by kernel_rfl)
def f66t43 N a b c d e (K:KT ρ):=vL (z7v a b c d e) (f66t43L N (jK zs8 K) N a b c d e) (by kernel_rfl)
def f66t42 N a b c d e (K:KT ρ):=vB 8 zs8 K (z02.Z42 N a b c d e (λa=>K .nrm (zfy a)) (λf g=>K .ret (z8k f g))) (f66t43 N a b c d e _) (by kernel_rfl)
def f66t40 N a b c d (K:KT ρ):=vQ (λk=>z02.Z41 N a b c d k) (f66t41 N a b c d _) (fx5 λa e b c d=>f66t42 N a e b c d K)
def f66t54 N a (K:KT ρ):zf0 N 31 (zfy a) f66lE K =
 z02.Z54 N a (λb c=>K .ret (z8k b c)):=by kernel_rfl
def f66t39 N a b c d (K:KT ρ):=vQ (λk=>z02.Z40 N a b c d k (λe f=>K .ret (z8k e f))) (f66t40 N a b c d _) (funext λa=>f66t54 N a K)
def f66t4 N a b c d (K:KT ρ):=vQ (λk=>z02.Z5 N a b c d k) (f66t5 N a b c d _) (fx4 λa b c d=>f66t39 N a b c d K)
def f66t2 N a b c (K:KT ρ):=vQ (λk=>z02.Z3 N a b c k) (f66t3 N a b c _) (fx4 λd a b c=>f66t4 N d a b c K)
def f66t0 N a (K:KT ρ):=vQ (λk=>z02.Z1 N a k) (f66t1 N a _) (fx3 λb c d=>f66t2 N b c d K)
def f66ok(h:z02.Spec):z0a Tryz.prog 66 e66 :=
 okC Tryz.func66 z2t f66GOk (λN X K=>f66t0 N X.1 K) (by kernel_rfl) λX hb hp=>by
  obtain⟨a,_⟩:=X
  obtain⟨N,h⟩:=h a hb.1 hp
  exact⟨N,Eq.trans (by kernel_rfl) (h N (Nat.le_refl N))⟩
def e66ok:z0a Tryz.prog 66 e66:=f66ok z02.ok
end Go.Fw
namespace Go.Fw
variable {ρ : Type}
open Go.Proofs
def f25sig:Sig:=⟨[⟨.pair (.int .i64) (.pair (.int .i64) (.sl 3 (.int .i64))),true,false⟩],[⟨.bool,false,false⟩]⟩
def e25:z29:=⟨f25sig,none,λX=>((),((z35.g X.1),()))⟩
def f25G:Gm:=z3q (z3q z1r 65 e65) 66 e66
def f25GOk:GOk Tryz.prog f25G:=((GOk.nil).add e65ok (by kernel_rfl)).add e66ok (by kernel_rfl)
def f25lE:z00:=⟨[],[],[],[],[]⟩
def f25s0(a:MT):St:=z1p f25sig.ps (a,())
def f25s1(a:Bool):St:=z14 [(2,xB a)] [] []
def f25l1:z00:=⟨[2],[],[],[],[]⟩
def f25B:Nat->Option z00:=z1b [(1000000,f25l1)]
abbrev f25j{ρ:Type}(N n:Nat)(σ:St)(l:z00)(K:KT ρ):Option ρ:=z0r f25G tab f25B N (z2q 99 (z1s Tryz.f25) n) .n σ (z16 (some l) K)
def f25t0 N a (K:KT ρ):f25j N 1 (f25s0 a) f25lE K =
 z35.Z0 N a (λb=>K .ret (f25s1 b)):=by kernel_rfl
def f25ok(h:z35.Spec):z0a Tryz.prog 25 e25 :=
 okC Tryz.func25 z2t f25GOk (λN X K=>f25t0 N X.1 K) (by kernel_rfl) λX hb hp=>by
  obtain⟨a,_⟩:=X
  obtain⟨N,h⟩:=h a hb.1
  exact⟨N,Eq.trans (by kernel_rfl) (h N (Nat.le_refl N))⟩
def e25ok:z0a Tryz.prog 25 e25:=f25ok z35.ok
end Go.Fw
namespace Go.Fw
variable {ρ : Type}
open Go.Proofs
def f46sig:Sig:=⟨[⟨.sl 3 (.int .i64),false,false⟩],[⟨.sl 3 (.int .i64),false,false⟩]⟩
def e46:z29:=⟨f46sig,(some λX=>z1m.P X.1),λX=>((),((z1m.g X.1),()))⟩
def f46G:Gm:=z1r
def f46GOk:GOk Tryz.prog f46G:=GOk.nil
def f46lE:z00:=⟨[],[],[],[],[]⟩
def f46s0(a:LI):St:=z1p f46sig.ps (a,())
def f46s1(a:LI):St:=z14 [(2,xo 1000128)] [] [(1000128,(⟨3,.int .i64,a,true,false⟩:Row))]
def f46l1:z00:=⟨[2],[],[],[],[(⟨false,2,0⟩,1000128)]⟩
def f46B:Nat->Option z00:=z1b [(1000000,f46l1)]
abbrev f46j{ρ:Type}(N n:Nat)(σ:St)(l:z00)(K:KT ρ):Option ρ:=z0r f46G tab f46B N (z2q 99 (z1s Tryz.f46) n) .n σ (z16 (some l) K)
def f46t0 N a (K:KT ρ):f46j N 1 (f46s0 a) f46lE K =
 z1m.Z0 N a (λb=>K .ret (f46s1 b)):=by kernel_rfl
def f46ok(h:z1m.Spec):z0a Tryz.prog 46 e46 :=
 okC Tryz.func46 z2t f46GOk (λN X K=>f46t0 N X.1 K) (by kernel_rfl) λX hb hp=>by
  obtain⟨a,_⟩:=X
  obtain⟨N,h⟩:=h a hb.1 hp
  exact⟨N,Eq.trans (by kernel_rfl) (h N (Nat.le_refl N))⟩
def e46ok:z0a Tryz.prog 46 e46:=f46ok z1m.ok
end Go.Fw
namespace Go.Fw
variable {ρ : Type}
open Go.Proofs
def f70sig:Sig:=⟨[⟨.pair (.int .i64) (.pair (.int .i64) (.sl 3 (.int .i64))),true,false⟩],[⟨.pair (.int .i64) (.pair (.int .i64) (.sl 3 (.int .i64))),true,false⟩]⟩
def e70:z29:=⟨f70sig,(some λX=>z0u.P X.1),λX=>((),((z0u.g X.1),()))⟩
def f70G:Gm:=z3q z1r 46 e46
def f70GOk:GOk Tryz.prog f70G:=(GOk.nil).add e46ok (by kernel_rfl)
def f70lE:z00:=⟨[],[],[],[],[]⟩
def f70s0(a:MT):St:=z1p f70sig.ps (a,())
def f70s1(a:LI)(b c:Int):St:=z14 [(2,xb 2)] [(2,(27,[yi b,yi c,.own 20000130]))] [(20000130,(⟨3,.int .i64,a,true,false⟩:Row))]
def f70l1:z00:=⟨[2],[2],[],[],[(⟨true,2,2⟩,20000130)]⟩
def f70B:Nat->Option z00:=z1b [(1000000,f70l1)]
abbrev f70j{ρ:Type}(N n:Nat)(σ:St)(l:z00)(K:KT ρ):Option ρ:=z0r f70G tab f70B N (z2q 99 (z1s Tryz.f70) n) .n σ (z16 (some l) K)
def f70t0 N a (K:KT ρ):f70j N 1 (f70s0 a) f70lE K =
 z0u.Z0 N a (λb c d=>K .ret (f70s1 b c d)):=by kernel_rfl
def f70ok(h:z0u.Spec):z0a Tryz.prog 70 e70 :=
 okC Tryz.func70 z2t f70GOk (λN X K=>f70t0 N X.1 K) (by kernel_rfl) λX hb hp=>by
  obtain⟨a,_⟩:=X
  obtain⟨N,h⟩:=h a hb.1 hp
  exact⟨N,Eq.trans (by kernel_rfl) (h N (Nat.le_refl N))⟩
def e70ok:z0a Tryz.prog 70 e70:=f70ok z0u.ok
end Go.Fw
namespace Go.Fw
variable {ρ : Type}
open Go.Proofs
def zsz:Rf:=none
def zt0:List PT:=[⟨.sl 3 (.int .i64),false,true⟩,⟨.int .i64,false,false⟩,⟨.sl 22 (.sl 3 (.int .i64)),false,true⟩]
def f119rs:List PT:=[⟨.sl 22 (.sl 3 (.int .i64)),false,false⟩]
def e119S(m:Nat):z74:=⟨zsz,zt0,f119rs,(some (za9 (λX=>z10.mu X.2.1 X.2.2.1 X.2.2.2.1) (λX=>z10.P X.2.1 X.2.2.1 X.2.2.2.1) m)),λX=>((),((z10.g X.2.1 X.2.2.1 X.2.2.2.1),()))⟩
def e119:z74:=⟨zsz,zt0,f119rs,(some λX=>z10.P X.2.1 X.2.2.1 X.2.2.2.1),λX=>((),((z10.g X.2.1 X.2.2.1 X.2.2.2.1),()))⟩
def f119G(m:Nat):Gm:=addM (z3q (z3q z1r 46 e46) 72 e72) 119 (e119S m)
def f119GOk(m:Nat)(hself:z3e Tryz.prog 119 (e119S m)):GOk Tryz.prog (f119G m):=(((GOk.nil).add e46ok (by kernel_rfl)).add e72ok (by kernel_rfl)).addM hself (by kernel_rfl)
def f119lE:z00:=⟨[],[],[],[],[]⟩
def f119s0(a:LI)(b:Int)(c:LL):St:=z3y zsz zt0 ((),(a,(b,(c,()))))
def znu(a:LI)(b:LL)(c:Int):St:=z14 [(0,xo 1000000),(1,xi c),(2,xo 1000128)] [] [(1000000,(⟨3,.int .i64,a,true,false⟩:Row)),(1000128,(⟨22,.sl 3 tI,b,true,false⟩:Row))]
def f119l1:z00:=⟨[0,1,2],[],[],[],[(⟨false,0,0⟩,1000000),(⟨false,2,0⟩,1000128)]⟩
def znt(a:LI)(b:LL)(c d:Int):St:=z14 [(0,xo 1000000),(1,xi c),(2,xo 1000128),(7,xi d)] [] [(1000000,(⟨3,.int .i64,a,true,false⟩:Row)),(1000128,(⟨22,.sl 3 tI,b,true,false⟩:Row))]
def f119l2:z00:=⟨[0,1,2,7],[],[],[],[(⟨false,0,0⟩,1000000),(⟨false,2,0⟩,1000128)]⟩
def zk7(a:LL):St:=z14 [(2,xo 1000128)] [] [(1000128,(⟨22,.sl 3 tI,a,true,false⟩:Row))]
def zt1:z00:=⟨[2],[],[],[],[(⟨false,2,0⟩,1000128)]⟩
def zsy(a:LL):St:=z14 [(6,xo 1000384)] [] [(1000384,(⟨22,.sl 3 tI,a,true,false⟩:Row))]
def f119l4:z00:=⟨[6],[],[],[],[(⟨false,6,0⟩,1000384)]⟩
def f119B:Nat->Option z00:=z1b [(0,zt1),(1000000,f119l4)]
abbrev zt2{ρ:Type}(N m n:Nat)(σ:St)(l:z00)(K:KT ρ):Option ρ:=z0r (f119G m) tab f119B N (z2q 99 (z1s Tryz.f119) n) .n σ (z16 (some l) K)
def f119t1 N m a b c (K:KT ρ):zt2 N m 2 (f119s0 a b c) f119l1 K =
 z10.Z1 N m a b c (λa c b=>K .nrm (znu a c b)):=by kernel_rfl
def f119t3 N m a b c (K:KT ρ):zt2 N m 5 (znu a b c) f119l1 K =
 z10.Z3 N m a b c (λa b c=>K .nrm (znu a b c)) (λd=>K .ret (zsy d)):=by kernel_rfl
def f119t6 N m a b c (K:KT ρ):zt2 N m 19 (znu a b c) f119l2 K =
 z10.Z6 N m a b c (λa b c d=>K .nrm (znt a b c d)):=by kernel_rfl
def f119t9 N m b a c d (K:KT ρ):zt2 N m 75 (znt b a c d) f119l2 K =
 z10.Z9 N m b a c d (λb a c d=>K .nrm (znt b a c d)) (λa=>K (.exit 0) (zk7 a)):=by kernel_rfl
def f119t8L N m (K:KT ρ):=lp4 K (z10.Z8L N m (λa=>K (.exit 0) (zk7 a))) (λb a c d k=>z10.Z9 N m b a c d k (λa=>K (.exit 0) (zk7 a))) (λF b a c d=>f119t9 N m b a c d _) (by kernel_rfl)
def f119t8 N m a b c d (K:KT ρ):=vL (znt a b c d) (f119t8L N m (jK zt1 K) N a b c d) (by kernel_rfl)
def f119t7 N m b a c d (K:KT ρ):=vB 0 zt1 K (z10.Z7 N m b a c d (λa=>K .nrm (zk7 a))) (f119t8 N m b a c d _) (by kernel_rfl)
def f119t5 N m a b c (K:KT ρ):=vQ (λk=>z10.Z6 N m a b c k) (f119t6 N m a b c _) (fx4 λa b c d=>f119t7 N m a b c d K)
def f119t10 N m a (K:KT ρ):zt2 N m 15 (zk7 a) f119lE K =
 z10.Z10 N m a (λb=>K .ret (zsy b)):=by kernel_rfl
def f119t4 N m b a c (K:KT ρ):=vQ (λk=>z10.Z5 N m b a c k) (f119t5 N m b a c _) (funext λa=>f119t10 N m a K)
def f119t2 N m a b c (K:KT ρ):=vQ (λk=>z10.Z3 N m a b c k (λd=>K .ret (zsy d))) (f119t3 N m a b c _) (fx3 λa b c=>f119t4 N m a b c K)
def f119t0 N m a b c (K:KT ρ):=vQ (λk=>z10.Z1 N m a b c k) (f119t1 N m a b c _) (fx3 λa c b=>f119t2 N m a c b K)
def f119ok(h:z10.Spec):z3e Tryz.prog 119 e119 :=
 z3e.rec (μ:=λX=>z10.mu X.2.1 X.2.2.1 X.2.2.2.1) (λm hself=>okM Tryz.func119 z2t (f119GOk m hself) (λN X K=>f119t0 N m X.2.1 X.2.2.1 X.2.2.2.1 K) (by kernel_rfl) λX hb1 hb2 hp=>by
  obtain⟨u,a,b,c,_⟩:=X
  obtain⟨N,h⟩:=h m a b c hb2.1 hb2.2.2.1 hp
  exact⟨N,Eq.trans (by kernel_rfl) (h N (Nat.le_refl N))⟩)
def e119ok:z3e Tryz.prog 119 e119:=f119ok z10.ok
end Go.Fw
namespace Go.Fw
variable {ρ : Type}
open Go.Proofs
def zsw:Sig:=⟨[⟨.pair (.int .i64) (.pair (.int .i64) (.sl 3 (.int .i64))),true,false⟩,⟨.sl 3 (.int .i64),false,false⟩],[⟨.pair (.int .i64) (.pair (.int .i64) (.sl 3 (.int .i64))),true,false⟩]⟩
def e120:z29:=⟨zsw,(some λX=>z0g.P X.1 X.2.1),λX=>((),((z0g.g X.1 X.2.1),()))⟩
def f120G:Gm:=z3q (z3q z1r 70 e70) 105 e105
def f120GOk:GOk Tryz.prog f120G:=((GOk.nil).add e70ok (by kernel_rfl)).add zkb (by kernel_rfl)
def f120lE:z00:=⟨[],[],[],[],[]⟩
def f120s0(a:MT)(b:LI):St:=z1p zsw.ps (a,(b,()))
def f120s1(a:LI)(b d:Int)(e:LI)(f g:Int):St:=z14 [(1,.c (.sn 3 tI a none)),(2,xb 2),(4,xb 4)] [(2,(27,[yi b,yi d,.sn 3 tI e none])),(4,(27,[yi f,yi g,.nil]))] []
def f120l1:z00:=⟨[1,2,4],[2,4],[],[],[]⟩
def f120s2(a b:LI)(d e:Int)(f:LI)(g h i j:Int):St:=z14 [(1,.c (.sn 3 tI b none)),(2,xb 2),(4,xb 4),(5,xb 5)] [(2,(27,[yi d,yi e,.sn 3 tI f none])),(4,(27,[yi g,yi h,.nil])),(5,(27,[yi i,yi j,.own 20000322]))] [(20000322,(⟨3,.int .i64,a,true,false⟩:Row))]
def f120l2:z00:=⟨[1,2,4,5],[2,4,5],[],[],[(⟨true,5,2⟩,20000322)]⟩
def z7w(a b:LI)(d e f:Int)(g:LI)(h i j l:Int):St:=z14 [(1,.c (.sn 3 tI b none)),(2,xb 2),(4,xb 4),(5,xb 5),(6,xi d)] [(2,(27,[yi e,yi f,.sn 3 tI g none])),(4,(27,[yi h,yi i,.nil])),(5,(27,[yi j,yi l,.own 20000322]))] [(20000322,(⟨3,.int .i64,a,true,false⟩:Row))]
def zcm:z00:=⟨[1,2,4,5,6],[2,4,5],[],[],[(⟨true,5,2⟩,20000322)]⟩
def zns(a b:LI)(d e f g:Int)(h:LI)(i j l m:Int):St:=z14 [(1,.c (.sn 3 tI b none)),(2,xb 2),(4,xb 4),(5,xb 5),(6,xi d),(7,xi e)] [(2,(27,[yi f,yi g,.sn 3 tI h none])),(4,(27,[yi i,yi j,.nil])),(5,(27,[yi l,yi m,.own 20000322]))] [(20000322,(⟨3,.int .i64,a,true,false⟩:Row))]
def f120l4:z00:=⟨[1,2,4,5,6,7],[2,4,5],[],[],[(⟨true,5,2⟩,20000322)]⟩
def znr(a b:LI)(d e f g h:Int)(i:LI)(j l m o:Int):St:=z14 [(1,.c (.sn 3 tI b none)),(2,xb 2),(4,xb 4),(5,xb 5),(6,xi d),(7,xi e),(8,xi f)] [(2,(27,[yi g,yi h,.sn 3 tI i none])),(4,(27,[yi j,yi l,.nil])),(5,(27,[yi m,yi o,.own 20000322]))] [(20000322,(⟨3,.int .i64,a,true,false⟩:Row))]
def f120l5:z00:=⟨[1,2,4,5,6,7,8],[2,4,5],[],[],[(⟨true,5,2⟩,20000322)]⟩
def zg2(a:LI)(b c d e:Int):St:=z14 [(4,xb 4),(5,xb 5)] [(4,(27,[yi b,yi c,.nil])),(5,(27,[yi d,yi e,.own 20000322]))] [(20000322,(⟨3,.int .i64,a,true,false⟩:Row))]
def zsx:z00:=⟨[4,5],[4,5],[],[],[(⟨true,5,2⟩,20000322)]⟩
def f120s7(a:LI)(b c:Int):St:=z14 [(4,xb 4)] [(4,(27,[yi b,yi c,.own 20000258]))] [(20000258,(⟨3,.int .i64,a,true,false⟩:Row))]
def f120l7:z00:=⟨[4],[4],[],[],[(⟨true,4,2⟩,20000258)]⟩
def f120B:Nat->Option z00:=z1b [(2,zcm),(1,zcm),(0,zsx),(1000000,f120l7)]
abbrev zf1{ρ:Type}(N n:Nat)(σ:St)(l:z00)(K:KT ρ):Option ρ:=z0r f120G tab f120B N (z2q 99 (z1s Tryz.f120) n) .n σ (z16 (some l) K)
def f120t1 N b a (K:KT ρ):zf1 N 2 (f120s0 b a) f120l1 K =
 z0g.Z1 N b a (λa c d e f g=>K .nrm (f120s1 a c d e f g)):=by kernel_rfl
def f120t3 N a b c d e f (K:KT ρ):zf1 N 5 (f120s1 a b c d e f) f120l2 K =
 z0g.Z3 N a b c d e f (λg a b c d e f h i=>K .nrm (f120s2 g a b c d e f h i)):=by kernel_rfl
def f120t6 N a b c d e f g h i (K:KT ρ):zf1 N 19 (f120s2 a b c d e f g h i) zcm K =
 z0g.Z6 N a b c d e f g h i (λa b j c d e f g h i=>K .nrm (z7w a b j c d e f g h i)):=by kernel_rfl
def f120t10 N a f g h i j b c d e (K:KT ρ):zf1 N 139 (z7w a f g h i j b c d e) zcm K =
 z0g.Z10 N a f g h i j b c d e (λa f g h i j b c d e=>K .nrm (z7w a f g h i j b c d e)) (λa b c d e=>K (.exit 0) (zg2 a b c d e)):=by kernel_rfl
def f120t14 N a b c d e f g h i j (K:KT ρ):zf1 N 1099 (z7w a b c d e f g h i j) f120l4 K =
 z0g.Z14 N a b c d e f g h i j (λa b c l d e f g h i j=>K .nrm (zns a b c l d e f g h i j)):=by kernel_rfl
def f120t16 N a b c d e f g h i j l (K:KT ρ):zf1 N 2635 (zns a b c d e f g h i j l) f120l4 K =
 z0g.Z16 N a b c d e f g h i j l (λa b c d e f g h i j l=>K .nrm (zns a b c d e f g h i j l)):=by kernel_rfl
def f120t18 N a b c d e f g h i j l (K:KT ρ):zf1 N 5707 (zns a b c d e f g h i j l) f120l5 K =
 z0g.Z18 N a b c d e f g h i j l (λa b c d m e f g h i j l=>K .nrm (znr a b c d m e f g h i j l)):=by kernel_rfl
def f120t21 N a b c l m d e f g h i j (K:KT ρ):zf1 N 20043 (znr a b c l m d e f g h i j) f120l5 K =
 z0g.Z21 N a b c l m d e f g h i j (λa b c l m d e f g h i j=>K .nrm (znr a b c l m d e f g h i j)) (λa b c d e f g h i j=>K (.exit 2) (z7w a b c d e f g h i j)):=by kernel_rfl
def f120t20L N (K:KT ρ):=lp12 K (z0g.Z20L N (λa b c d e f g h i j=>K (.exit 2) (z7w a b c d e f g h i j))) (λa b c l m d e f g h i j k=>z0g.Z21 N a b c l m d e f g h i j k (λa b c d e f g h i j=>K (.exit 2) (z7w a b c d e f g h i j))) (λF a b c l m d e f g h i j=>f120t21 N a b c l m d e f g h i j _) (by kernel_rfl)
def f120t20 N a b c d e f g h i j l m (K:KT ρ):=vL (znr a b c d e f g h i j l m) (f120t20L N (jK zcm K) N a b c d e f g h i j l m) (by kernel_rfl)
def f120t19 N a b c l m d e f g h i j (K:KT ρ):=vB 2 zcm K (z0g.Z19 N a b c l m d e f g h i j (λa b c d e f g h i j=>K .nrm (z7w a b c d e f g h i j))) (f120t20 N a b c l m d e f g h i j _) (by kernel_rfl)
def f120t17 N a b c d e f g h i j l (K:KT ρ):=vQ (λk=>z0g.Z18 N a b c d e f g h i j l k) (f120t18 N a b c d e f g h i j l _) (fx12 λa b c d m e f g h i j l=>f120t19 N a b c d m e f g h i j l K)
def f120t15 N a b c d e f g h i j l (K:KT ρ):=vQ (λk=>z0g.Z16 N a b c d e f g h i j l k) (f120t16 N a b c d e f g h i j l _) (zky λa b c d e f g h i j l=>f120t17 N a b c d e f g h i j l K)
def f120t13 N a b c d e f g h i j (K:KT ρ):=vQ (λk=>z0g.Z14 N a b c d e f g h i j k) (f120t14 N a b c d e f g h i j _) (zky λa b c l d e f g h i j=>f120t15 N a b c l d e f g h i j K)
def f120t12 N a b c d e f g h i j (K:KT ρ):=vB 1 zcm K (z0g.Z12 N a b c d e f g h i j (λa b c d e f g h i j=>K .nrm (z7w a b c d e f g h i j))) (f120t13 N a b c d e f g h i j _) (by kernel_rfl)
def f120t22 N a b c d e f g h i j (K:KT ρ):zf1 N 459 (z7w a b c d e f g h i j) zcm K =
 z0g.Z22 N a b c d e f g h i j (λa b c d e f g h i j=>K .nrm (z7w a b c d e f g h i j)):=by kernel_rfl
def f120t11 N a b c d e f g h i j (K:KT ρ):=vQ (λk=>z0g.Z12 N a b c d e f g h i j k) (f120t12 N a b c d e f g h i j _) (zdc λa b c d e f g h i j=>f120t22 N a b c d e f g h i j K)
def f120t9 N a f g h i j b c d e (K:KT ρ):=vQ (λk=>z0g.Z10 N a f g h i j b c d e k (λa b c d e=>K (.exit 0) (zg2 a b c d e))) (f120t10 N a f g h i j b c d e _) (zdc λa f g h i j b c d e=>f120t11 N a f g h i j b c d e K)
def f120t8L N (K:KT ρ):=lp10 K (z0g.Z8L N (λa b c d e=>K (.exit 0) (zg2 a b c d e))) (λa f g h i j b c d e k=>z0g.Z9 N a f g h i j b c d e k (λa b c d e=>K (.exit 0) (zg2 a b c d e))) (λF a f g h i j b c d e=>f120t9 N a f g h i j b c d e _) (by kernel_rfl)
def f120t8 N a b c d e f g h i j (K:KT ρ):=vL (z7w a b c d e f g h i j) (f120t8L N (jK zsx K) N a b c d e f g h i j) (by kernel_rfl)
def f120t7 N a f g h i j b c d e (K:KT ρ):=vB 0 zsx K (z0g.Z7 N a f g h i j b c d e (λa b c d e=>K .nrm (zg2 a b c d e))) (f120t8 N a f g h i j b c d e _) (by kernel_rfl)
def f120t5 N a b c d e f g h i (K:KT ρ):=vQ (λk=>z0g.Z6 N a b c d e f g h i k) (f120t6 N a b c d e f g h i _) (zdc λa b j c d e f g h i=>f120t7 N a b j c d e f g h i K)
def f120t23 N c a b d e (K:KT ρ):zf1 N 15 (zg2 c a b d e) f120lE K =
 z0g.Z23 N c a b d e (λf a b=>K .ret (f120s7 f a b)):=by kernel_rfl
def f120t4 N a f g h i b c d e (K:KT ρ):=vQ (λk=>z0g.Z5 N a f g h i b c d e k) (f120t5 N a f g h i b c d e _) (fx5 λa b c d e=>f120t23 N a b c d e K)
def f120t2 N a b c d e f (K:KT ρ):=vQ (λk=>z0g.Z3 N a b c d e f k) (f120t3 N a b c d e f _) (fx9 λg a b c d e f h i=>f120t4 N g a b c d e f h i K)
def f120t0 N b a (K:KT ρ):=vQ (λk=>z0g.Z1 N b a k) (f120t1 N b a _) (fx6 λa c d e f g=>f120t2 N a c d e f g K)
def f120ok(h:z0g.Spec):z0a Tryz.prog 120 e120 :=
 okC Tryz.func120 z2t f120GOk (λN X K=>f120t0 N X.1 X.2.1 K) (by kernel_rfl) λX hb hp=>by
  obtain⟨a,b,_⟩:=X
  obtain⟨N,h⟩:=h a b hb.1 hb.2.1 hp
  exact⟨N,Eq.trans (by kernel_rfl) (h N (Nat.le_refl N))⟩
def e120ok:z0a Tryz.prog 120 e120:=f120ok z0g.ok
end Go.Fw
namespace Go.Fw
variable {ρ : Type}
open Go.Proofs
def f89sig:Sig:=⟨[⟨.sl 3 (.int .i64),false,false⟩,⟨.sl 3 (.int .i64),false,false⟩],[⟨.bool,false,false⟩]⟩
def e89:z29:=⟨f89sig,none,λX=>((),((z1y.g X.1 X.2.1),()))⟩
def f89G:Gm:=z1r
def f89GOk:GOk Tryz.prog f89G:=GOk.nil
def f89lE:z00:=⟨[],[],[],[],[]⟩
def f89s0(a b:LI):St:=z1p f89sig.ps (a,(b,()))
def zlo(a b:LI):St:=z14 [(0,.c (.sn 3 tI a none)),(1,.c (.sn 3 tI b none))] [] []
def f89l1:z00:=⟨[0,1],[],[],[],[]⟩
def f89s2(a b:LI)(d:Int):St:=z14 [(0,.c (.sn 3 tI a none)),(1,.c (.sn 3 tI b none)),(5,xi d)] [] []
def f89l2:z00:=⟨[0,1,5],[],[],[],[]⟩
def zp8(a:Bool):St:=z14 [(4,xB a)] [] []
def f89l3:z00:=⟨[4],[],[],[],[]⟩
def f89B:Nat->Option z00:=z1b [(0,f89l1),(1000000,f89l3)]
abbrev f89j{ρ:Type}(N n:Nat)(σ:St)(l:z00)(K:KT ρ):Option ρ:=z0r f89G tab f89B N (z2q 99 (z1s Tryz.f89) n) .n σ (z16 (some l) K)
def f89t1 N a b (K:KT ρ):f89j N 2 (f89s0 a b) f89l1 K =
 z1y.Z1 N a b (λa b=>K .nrm (zlo a b)):=by kernel_rfl
def f89t4 N a b (K:KT ρ):f89j N 9 (zlo a b) f89l2 K =
 z1y.Z4 N a b (λa b c=>K .nrm (f89s2 a b c)):=by kernel_rfl
def f89t7 N a b c (K:KT ρ):f89j N 37 (f89s2 a b c) f89l2 K =
 z1y.Z7 N a b c (λa b c=>K .nrm (f89s2 a b c)) (λa b=>K (.exit 0) (zlo a b)) (λd=>K .ret (zp8 d)):=by kernel_rfl
def f89t6L N (K:KT ρ):=lp3 K (z1y.Z6L N (λa b=>K (.exit 0) (zlo a b)) (λc=>K .ret (zp8 c))) (λa b d k=>z1y.Z7 N a b d k (λa b=>K (.exit 0) (zlo a b)) (λc=>K .ret (zp8 c))) (λF a b d=>f89t7 N a b d _) (by kernel_rfl)
def f89t6 N a b c (K:KT ρ):=vL (f89s2 a b c) (f89t6L N (jK f89l1 K) N a b c) (by kernel_rfl)
def f89t5 N a b c (K:KT ρ):=vB 0 f89l1 K (z1y.Z5 N a b c (λa b=>K .nrm (zlo a b)) (λd=>K .ret (zp8 d))) (f89t6 N a b c _) (by kernel_rfl)
def f89t3 N a b (K:KT ρ):=vQ (λk=>z1y.Z4 N a b k) (f89t4 N a b _) (fx3 λa b c=>f89t5 N a b c K)
def f89t8 N a b (K:KT ρ):f89j N 7 (zlo a b) f89lE K =
 z1y.Z8 N a b (λc=>K .ret (zp8 c)):=by kernel_rfl
def f89t2 N a b (K:KT ρ):=vQ (λk=>z1y.Z3 N a b k (λc=>K .ret (zp8 c))) (f89t3 N a b _) (fx2 λa b=>f89t8 N a b K)
def f89t0 N a b (K:KT ρ):=vQ (λk=>z1y.Z1 N a b k) (f89t1 N a b _) (fx2 λa b=>f89t2 N a b K)
def f89ok(h:z1y.Spec):z0a Tryz.prog 89 e89 :=
 okC Tryz.func89 z2t f89GOk (λN X K=>f89t0 N X.1 X.2.1 K) (by kernel_rfl) λX hb hp=>by
  obtain⟨a,b,_⟩:=X
  obtain⟨N,h⟩:=h a b hb.1 hb.2.1
  exact⟨N,Eq.trans (by kernel_rfl) (h N (Nat.le_refl N))⟩
def e89ok:z0a Tryz.prog 89 e89:=f89ok z1y.ok
end Go.Fw
namespace Go.Fw
variable {ρ : Type}
open Go.Proofs
def f86sig:Sig:=⟨[⟨.pair (.int .i64) (.pair (.int .i64) (.sl 3 (.int .i64))),true,false⟩],[⟨.pair (.int .i64) (.pair (.int .i64) (.sl 3 (.int .i64))),true,false⟩]⟩
def e86:z29:=⟨f86sig,(some λX=>z0f.P X.1),λX=>((),((z0f.g X.1),()))⟩
def f86G:Gm:=z3q (addM (z3q (z3q z1r 70 e70) 89 e89) 119 e119) 120 e120
def f86GOk:GOk Tryz.prog f86G:=((((GOk.nil).add e70ok (by kernel_rfl)).add e89ok (by kernel_rfl)).addM e119ok (by kernel_rfl)).add e120ok (by kernel_rfl)
def f86lE:z00:=⟨[],[],[],[],[]⟩
def f86s0(a:MT):St:=z1p f86sig.ps (a,())
def f86s1(a b:Int)(c:LI)(d e:Int):St:=z14 [(1,xb 1),(2,xb 2)] [(1,(27,[yi a,yi b,.sn 3 tI c none])),(2,(27,[yi d,yi e,.nil]))] []
def f86l1:z00:=⟨[1,2],[1,2],[],[],[]⟩
def f86s2(a:LI)(b c:Int)(d:LI)(e f g h:Int):St:=z14 [(1,xb 1),(2,xb 2),(3,xb 3)] [(1,(27,[yi b,yi c,.sn 3 tI d none])),(2,(27,[yi e,yi f,.nil])),(3,(27,[yi g,yi h,.own 20000194]))] [(20000194,(⟨3,.int .i64,a,true,false⟩:Row))]
def f86l2:z00:=⟨[1,2,3],[1,2,3],[],[],[(⟨true,3,2⟩,20000194)]⟩
def f86s3(a:LL)(b:LI)(c d:Int)(e:LI)(f g h i:Int):St:=z14 [(1,xb 1),(2,xb 2),(3,xb 3),(4,xo 1000256)] [(1,(27,[yi c,yi d,.sn 3 tI e none])),(2,(27,[yi f,yi g,.nil])),(3,(27,[yi h,yi i,.own 20000194]))] [(1000256,(⟨22,.sl 3 tI,a,true,false⟩:Row)),(20000194,(⟨3,.int .i64,b,true,false⟩:Row))]
def f86l3:z00:=⟨[1,2,3,4],[1,2,3],[],[],[(⟨false,4,0⟩,1000256),(⟨true,3,2⟩,20000194)]⟩
def f86s4(a:LL)(b:LI)(c d e:Int)(f:LI)(g h i j:Int):St:=z14 [(1,xb 1),(2,xb 2),(3,xb 3),(4,xo 1000256),(5,xi c)] [(1,(27,[yi d,yi e,.sn 3 tI f none])),(2,(27,[yi g,yi h,.nil])),(3,(27,[yi i,yi j,.own 20000194]))] [(1000256,(⟨22,.sl 3 tI,a,true,false⟩:Row)),(20000194,(⟨3,.int .i64,b,true,false⟩:Row))]
def f86l4:z00:=⟨[1,2,3,4,5],[1,2,3],[],[],[(⟨false,4,0⟩,1000256),(⟨true,3,2⟩,20000194)]⟩
def zs1(a:LI)(b c d e:Int):St:=z14 [(2,xb 2),(3,xb 3)] [(2,(27,[yi b,yi c,.nil])),(3,(27,[yi d,yi e,.own 20000194]))] [(20000194,(⟨3,.int .i64,a,true,false⟩:Row))]
def f86l5:z00:=⟨[2,3],[2,3],[],[],[(⟨true,3,2⟩,20000194)]⟩
def f86s6(a:LI)(b c:Int):St:=z14 [(2,xb 2)] [(2,(27,[yi b,yi c,.own 20000130]))] [(20000130,(⟨3,.int .i64,a,true,false⟩:Row))]
def f86l6:z00:=⟨[2],[2],[],[],[(⟨true,2,2⟩,20000130)]⟩
def f86B:Nat->Option z00:=z1b [(0,f86l5),(1000000,f86l6)]
abbrev f86j{ρ:Type}(N n:Nat)(σ:St)(l:z00)(K:KT ρ):Option ρ:=z0r f86G tab f86B N (z2q 99 (z1s Tryz.f86) n) .n σ (z16 (some l) K)
def f86t1 N a (K:KT ρ):f86j N 2 (f86s0 a) f86l1 K =
 z0f.Z1 N a (λb c d e f=>K .nrm (f86s1 b c d e f)):=by kernel_rfl
def f86t3 N a b c d e (K:KT ρ):f86j N 5 (f86s1 a b c d e) f86l2 K =
 z0f.Z3 N a b c d e (λf a b c d e g h=>K .nrm (f86s2 f a b c d e g h)):=by kernel_rfl
def f86t5 N a b c d e f g h (K:KT ρ):f86j N 11 (f86s2 a b c d e f g h) f86l3 K =
 z0f.Z5 N a b c d e f g h (λi a b c d e f g h=>K .nrm (f86s3 i a b c d e f g h)):=by kernel_rfl
def f86t8 N a b c d e f g h i (K:KT ρ):f86j N 39 (f86s3 a b c d e f g h i) f86l4 K =
 z0f.Z8 N a b c d e f g h i (λa b j c d e f g h i=>K .nrm (f86s4 a b j c d e f g h i)):=by kernel_rfl
def f86t11 N f a g h i j b c d e (K:KT ρ):f86j N 151 (f86s4 f a g h i j b c d e) f86l4 K =
 z0f.Z11 N f a g h i j b c d e (λf a g h i j b c d e=>K .nrm (f86s4 f a g h i j b c d e)) (λa b c d e=>K (.exit 0) (zs1 a b c d e)):=by kernel_rfl
def f86t10L N (K:KT ρ):=lp10 K (z0f.Z10L N (λa b c d e=>K (.exit 0) (zs1 a b c d e))) (λf a g h i j b c d e k=>z0f.Z11 N f a g h i j b c d e k (λa b c d e=>K (.exit 0) (zs1 a b c d e))) (λF f a g h i j b c d e=>f86t11 N f a g h i j b c d e _) (by kernel_rfl)
def f86t10 N a b c d e f g h i j (K:KT ρ):=vL (f86s4 a b c d e f g h i j) (f86t10L N (jK f86l5 K) N a b c d e f g h i j) (by kernel_rfl)
def f86t9 N f a g h i j b c d e (K:KT ρ):=vB 0 f86l5 K (z0f.Z9 N f a g h i j b c d e (λa b c d e=>K .nrm (zs1 a b c d e))) (f86t10 N f a g h i j b c d e _) (by kernel_rfl)
def f86t7 N a b c d e f g h i (K:KT ρ):=vQ (λk=>z0f.Z8 N a b c d e f g h i k) (f86t8 N a b c d e f g h i _) (zdc λa b j c d e f g h i=>f86t9 N a b j c d e f g h i K)
def f86t12 N c a b d e (K:KT ρ):f86j N 31 (zs1 c a b d e) f86lE K =
 z0f.Z12 N c a b d e (λf a b=>K .ret (f86s6 f a b)):=by kernel_rfl
def f86t6 N f a g h i b c d e (K:KT ρ):=vQ (λk=>z0f.Z7 N f a g h i b c d e k) (f86t7 N f a g h i b c d e _) (fx5 λa b c d e=>f86t12 N a b c d e K)
def f86t4 N a b c d e f g h (K:KT ρ):=vQ (λk=>z0f.Z5 N a b c d e f g h k) (f86t5 N a b c d e f g h _) (fx9 λi a b c d e f g h=>f86t6 N i a b c d e f g h K)
def f86t2 N a b c d e (K:KT ρ):=vQ (λk=>z0f.Z3 N a b c d e k) (f86t3 N a b c d e _) (fx8 λf a b c d e g h=>f86t4 N f a b c d e g h K)
def f86t0 N a (K:KT ρ):=vQ (λk=>z0f.Z1 N a k) (f86t1 N a _) (fx5 λb c d e f=>f86t2 N b c d e f K)
def f86ok(h:z0f.Spec):z0a Tryz.prog 86 e86 :=
 okC Tryz.func86 z2t f86GOk (λN X K=>f86t0 N X.1 K) (by kernel_rfl) λX hb hp=>by
  obtain⟨a,_⟩:=X
  obtain⟨N,h⟩:=h a hb.1 hp
  exact⟨N,Eq.trans (by kernel_rfl) (h N (Nat.le_refl N))⟩
def e86ok:z0a Tryz.prog 86 e86:=f86ok z0f.ok
end Go.Fw
namespace Go.Fw
variable {ρ : Type}
open Go.Proofs
def f87sig:Sig:=⟨[⟨.pair (.int .i64) (.pair (.int .i64) (.sl 3 (.int .i64))),true,false⟩,⟨.int .i64,false,false⟩],[⟨.pair (.int .i64) (.pair (.int .i64) (.sl 3 (.int .i64))),true,false⟩]⟩
def e87:z29:=⟨f87sig,(some λX=>z0d.P X.1 X.2.1),λX=>((),((z0d.g X.1 X.2.1),()))⟩
def f87G:Gm:=z3q (z3q z1r 70 e70) 105 e105
def f87GOk:GOk Tryz.prog f87G:=((GOk.nil).add e70ok (by kernel_rfl)).add zkb (by kernel_rfl)
def f87lE:z00:=⟨[],[],[],[],[]⟩
def f87s0(a:MT)(b:Int):St:=z1p f87sig.ps (a,(b,()))
def f87s1(a b c:Int)(d:LI)(e f:Int):St:=z14 [(1,xi a),(2,xb 2),(4,xb 4)] [(2,(27,[yi b,yi c,.sn 3 tI d none])),(4,(27,[yi e,yi f,.nil]))] []
def f87l1:z00:=⟨[1,2,4],[2,4],[],[],[]⟩
def f87s2(a:LI)(b c d:Int)(e:LI)(f g h i:Int):St:=z14 [(1,xi b),(2,xb 2),(4,xb 4),(5,xb 5)] [(2,(27,[yi c,yi d,.sn 3 tI e none])),(4,(27,[yi f,yi g,.nil])),(5,(27,[yi h,yi i,.own 20000322]))] [(20000322,(⟨3,.int .i64,a,true,false⟩:Row))]
def f87l2:z00:=⟨[1,2,4,5],[2,4,5],[],[],[(⟨true,5,2⟩,20000322)]⟩
def zbu(a:LI)(b c d e:Int)(f:LI)(g h i j:Int):St:=z14 [(1,xi b),(2,xb 2),(4,xb 4),(5,xb 5),(6,xi c)] [(2,(27,[yi d,yi e,.sn 3 tI f none])),(4,(27,[yi g,yi h,.nil])),(5,(27,[yi i,yi j,.own 20000322]))] [(20000322,(⟨3,.int .i64,a,true,false⟩:Row))]
def zjq:z00:=⟨[1,2,4,5,6],[2,4,5],[],[],[(⟨true,5,2⟩,20000322)]⟩
def zez(a:LI)(b c d e f:Int)(g:LI)(h i j l:Int):St:=z14 [(1,xi b),(2,xb 2),(4,xb 4),(5,xb 5),(6,xi c),(7,xi d)] [(2,(27,[yi e,yi f,.sn 3 tI g none])),(4,(27,[yi h,yi i,.nil])),(5,(27,[yi j,yi l,.own 20000322]))] [(20000322,(⟨3,.int .i64,a,true,false⟩:Row))]
def zjp:z00:=⟨[1,2,4,5,6,7],[2,4,5],[],[],[(⟨true,5,2⟩,20000322)]⟩
def f87s5(a:LI)(b c d e f g:Int)(h:LI)(i j l m:Int):St:=z14 [(1,xi b),(2,xb 2),(4,xb 4),(5,xb 5),(6,xi c),(7,xi d),(8,xi e)] [(2,(27,[yi f,yi g,.sn 3 tI h none])),(4,(27,[yi i,yi j,.nil])),(5,(27,[yi l,yi m,.own 20000322]))] [(20000322,(⟨3,.int .i64,a,true,false⟩:Row))]
def f87l5:z00:=⟨[1,2,4,5,6,7,8],[2,4,5],[],[],[(⟨true,5,2⟩,20000322)]⟩
def f87s6(a:LI)(b c d e f g h:Int)(i:LI)(j l m o:Int):St:=z14 [(1,xi b),(2,xb 2),(4,xb 4),(5,xb 5),(6,xi c),(7,xi d),(8,xi e),(9,xi f)] [(2,(27,[yi g,yi h,.sn 3 tI i none])),(4,(27,[yi j,yi l,.nil])),(5,(27,[yi m,yi o,.own 20000322]))] [(20000322,(⟨3,.int .i64,a,true,false⟩:Row))]
def f87l6:z00:=⟨[1,2,4,5,6,7,8,9],[2,4,5],[],[],[(⟨true,5,2⟩,20000322)]⟩
def f87s7(a:LI)(b c d e f:Int)(g:Bool)(h i:Int)(j:LI)(l m o p:Int):St:=z14 [(1,xi b),(2,xb 2),(4,xb 4),(5,xb 5),(6,xi c),(7,xi d),(8,xi e),(9,xi f),(32,xB g)] [(2,(27,[yi h,yi i,.sn 3 tI j none])),(4,(27,[yi l,yi m,.nil])),(5,(27,[yi o,yi p,.own 20000322]))] [(20000322,(⟨3,.int .i64,a,true,false⟩:Row))]
def f87l7:z00:=⟨[1,2,4,5,6,7,8,9,32],[2,4,5],[],[],[(⟨true,5,2⟩,20000322)]⟩
def zp9(a:LI)(b c d e:Int):St:=z14 [(4,xb 4),(5,xb 5)] [(4,(27,[yi b,yi c,.nil])),(5,(27,[yi d,yi e,.own 20000322]))] [(20000322,(⟨3,.int .i64,a,true,false⟩:Row))]
def f87l8:z00:=⟨[4,5],[4,5],[],[],[(⟨true,5,2⟩,20000322)]⟩
def f87s9(a:LI)(b c:Int):St:=z14 [(4,xb 4)] [(4,(27,[yi b,yi c,.own 20000258]))] [(20000258,(⟨3,.int .i64,a,true,false⟩:Row))]
def f87l9:z00:=⟨[4],[4],[],[],[(⟨true,4,2⟩,20000258)]⟩
def f87B:Nat->Option z00:=z1b [(4,zjp),(3,zjp),(2,zjq),(1,zjq),(0,f87l8),(1000000,f87l9)]
abbrev zpa{ρ:Type}(N n:Nat)(σ:St)(l:z00)(K:KT ρ):Option ρ:=z0r f87G tab f87B N (z2q 99 (z1s Tryz.f87) n) .n σ (z16 (some l) K)
def f87t1 N b a (K:KT ρ):zpa N 2 (f87s0 b a) f87l1 K =
 z0d.Z1 N b a (λa c d e f g=>K .nrm (f87s1 a c d e f g)):=by kernel_rfl
def f87t3 N a b c d e f (K:KT ρ):zpa N 5 (f87s1 a b c d e f) f87l2 K =
 z0d.Z3 N a b c d e f (λg a b c d e f h i=>K .nrm (f87s2 g a b c d e f h i)):=by kernel_rfl
def f87t6 N a b c d e f g h i (K:KT ρ):zpa N 19 (f87s2 a b c d e f g h i) zjq K =
 z0d.Z6 N a b c d e f g h i (λa b j c d e f g h i=>K .nrm (zbu a b j c d e f g h i)):=by kernel_rfl
def f87t10 N a f g h i j b c d e (K:KT ρ):zpa N 139 (zbu a f g h i j b c d e) zjq K =
 z0d.Z10 N a f g h i j b c d e (λa f g h i j b c d e=>K .nrm (zbu a f g h i j b c d e)) (λa b c d e=>K (.exit 0) (zp9 a b c d e)):=by kernel_rfl
def f87t14 N a b c d e f g h i j (K:KT ρ):zpa N 1099 (zbu a b c d e f g h i j) zjp K =
 z0d.Z14 N a b c d e f g h i j (λa b c l d e f g h i j=>K .nrm (zez a b c l d e f g h i j)):=by kernel_rfl
def f87t18 N a b c l d e f g h i j (K:KT ρ):zpa N 8779 (zez a b c l d e f g h i j) zjp K =
 z0d.Z18 N a b c l d e f g h i j (λa b c l d e f g h i j=>K .nrm (zez a b c l d e f g h i j)) (λa b c d e f g h i j=>K (.exit 2) (zbu a b c d e f g h i j)):=by kernel_rfl
def f87t22 N a b c d e f g h i j l (K:KT ρ):zpa N 70219 (zez a b c d e f g h i j l) f87l5 K =
 z0d.Z22 N a b c d e f g h i j l (λa b c d m e f g h i j l=>K .nrm (f87s5 a b c d m e f g h i j l)):=by kernel_rfl
def f87t24 N a b c d e f g h i j l m (K:KT ρ):zpa N 168523 (f87s5 a b c d e f g h i j l m) f87l6 K =
 z0d.Z24 N a b c d e f g h i j l m (λa b c d e o f g h i j l m=>K .nrm (f87s6 a b c d e o f g h i j l m)):=by kernel_rfl
def f87t27 N a b c d e f g h i j l m o (K:KT ρ):zpa N 627275 (f87s6 a b c d e f g h i j l m o) f87l7 K =
 z0d.Z27 N a b c d e f g h i j l m o (λa b c d e f p g h i j l m o=>K .nrm (f87s7 a b c d e f p g h i j l m o)):=by kernel_rfl
def f87t28 N a b c d m o p e f g h i j l (K:KT ρ):zpa N 889419 (f87s7 a b c d m o p e f g h i j l) zjp K =
 z0d.Z28 N a b c d m o p e f g h i j l (λa b c d e f g h i j l=>K .nrm (zez a b c d e f g h i j l)):=by kernel_rfl
def f87t26 N a b c d e f g h i j l m o (K:KT ρ):=vQ (λk=>z0d.Z27 N a b c d e f g h i j l m o k) (f87t27 N a b c d e f g h i j l m o _) (fx14 λa b c d e f p g h i j l m o=>f87t28 N a b c d e f p g h i j l m o K)
def f87t25 N a b c d m o e f g h i j l (K:KT ρ):=vB 4 zjp K (z0d.Z25 N a b c d m o e f g h i j l (λa b c d e f g h i j l=>K .nrm (zez a b c d e f g h i j l))) (f87t26 N a b c d m o e f g h i j l _) (by kernel_rfl)
def f87t23 N a b c d e f g h i j l m (K:KT ρ):=vQ (λk=>z0d.Z24 N a b c d e f g h i j l m k) (f87t24 N a b c d e f g h i j l m _) (fx13 λa b c d e o f g h i j l m=>f87t25 N a b c d e o f g h i j l m K)
def f87t21 N a b c d e f g h i j l (K:KT ρ):=vQ (λk=>z0d.Z22 N a b c d e f g h i j l k) (f87t22 N a b c d e f g h i j l _) (fx12 λa b c d m e f g h i j l=>f87t23 N a b c d m e f g h i j l K)
def f87t20 N a b c d e f g h i j l (K:KT ρ):=vB 3 zjp K (z0d.Z20 N a b c d e f g h i j l (λa b c d e f g h i j l=>K .nrm (zez a b c d e f g h i j l))) (f87t21 N a b c d e f g h i j l _) (by kernel_rfl)
def f87t29 N a b c d e f g h i j l (K:KT ρ):zpa N 29259 (zez a b c d e f g h i j l) zjp K =
 z0d.Z29 N a b c d e f g h i j l (λa b c d e f g h i j l=>K .nrm (zez a b c d e f g h i j l)):=by kernel_rfl
def f87t19 N a b c d e f g h i j l (K:KT ρ):=vQ (λk=>z0d.Z20 N a b c d e f g h i j l k) (f87t20 N a b c d e f g h i j l _) (zky λa b c d e f g h i j l=>f87t29 N a b c d e f g h i j l K)
def f87t17 N a b c l d e f g h i j (K:KT ρ):=vQ (λk=>z0d.Z18 N a b c l d e f g h i j k (λa b c d e f g h i j=>K (.exit 2) (zbu a b c d e f g h i j))) (f87t18 N a b c l d e f g h i j _) (zky λa b c l d e f g h i j=>f87t19 N a b c l d e f g h i j K)
def f87t16L N (K:KT ρ):=lp11 K (z0d.Z16L N (λa b c d e f g h i j=>K (.exit 2) (zbu a b c d e f g h i j))) (λa b c l d e f g h i j k=>z0d.Z17 N a b c l d e f g h i j k (λa b c d e f g h i j=>K (.exit 2) (zbu a b c d e f g h i j))) (λF a b c l d e f g h i j=>f87t17 N a b c l d e f g h i j _) (by kernel_rfl)
def f87t16 N a b c d e f g h i j l (K:KT ρ):=vL (zez a b c d e f g h i j l) (f87t16L N (jK zjq K) N a b c d e f g h i j l) (by kernel_rfl)
def f87t15 N a b c l d e f g h i j (K:KT ρ):=vB 2 zjq K (z0d.Z15 N a b c l d e f g h i j (λa b c d e f g h i j=>K .nrm (zbu a b c d e f g h i j))) (f87t16 N a b c l d e f g h i j _) (by kernel_rfl)
def f87t13 N a b c d e f g h i j (K:KT ρ):=vQ (λk=>z0d.Z14 N a b c d e f g h i j k) (f87t14 N a b c d e f g h i j _) (zky λa b c l d e f g h i j=>f87t15 N a b c l d e f g h i j K)
def f87t12 N a b c d e f g h i j (K:KT ρ):=vB 1 zjq K (z0d.Z12 N a b c d e f g h i j (λa b c d e f g h i j=>K .nrm (zbu a b c d e f g h i j))) (f87t13 N a b c d e f g h i j _) (by kernel_rfl)
def f87t30 N a b c d e f g h i j (K:KT ρ):zpa N 459 (zbu a b c d e f g h i j) zjq K =
 z0d.Z30 N a b c d e f g h i j (λa b c d e f g h i j=>K .nrm (zbu a b c d e f g h i j)):=by kernel_rfl
def f87t11 N a b c d e f g h i j (K:KT ρ):=vQ (λk=>z0d.Z12 N a b c d e f g h i j k) (f87t12 N a b c d e f g h i j _) (zdc λa b c d e f g h i j=>f87t30 N a b c d e f g h i j K)
def f87t9 N a f g h i j b c d e (K:KT ρ):=vQ (λk=>z0d.Z10 N a f g h i j b c d e k (λa b c d e=>K (.exit 0) (zp9 a b c d e))) (f87t10 N a f g h i j b c d e _) (zdc λa f g h i j b c d e=>f87t11 N a f g h i j b c d e K)
def f87t8L N (K:KT ρ):=lp10 K (z0d.Z8L N (λa b c d e=>K (.exit 0) (zp9 a b c d e))) (λa f g h i j b c d e k=>z0d.Z9 N a f g h i j b c d e k (λa b c d e=>K (.exit 0) (zp9 a b c d e))) (λF a f g h i j b c d e=>f87t9 N a f g h i j b c d e _) (by kernel_rfl)
def f87t8 N a b c d e f g h i j (K:KT ρ):=vL (zbu a b c d e f g h i j) (f87t8L N (jK f87l8 K) N a b c d e f g h i j) (by kernel_rfl)
def f87t7 N a f g h i j b c d e (K:KT ρ):=vB 0 f87l8 K (z0d.Z7 N a f g h i j b c d e (λa b c d e=>K .nrm (zp9 a b c d e))) (f87t8 N a f g h i j b c d e _) (by kernel_rfl)
def f87t5 N a b c d e f g h i (K:KT ρ):=vQ (λk=>z0d.Z6 N a b c d e f g h i k) (f87t6 N a b c d e f g h i _) (zdc λa b j c d e f g h i=>f87t7 N a b j c d e f g h i K)
def f87t31 N c a b d e (K:KT ρ):zpa N 15 (zp9 c a b d e) f87lE K =
 z0d.Z31 N c a b d e (λf a b=>K .ret (f87s9 f a b)):=by kernel_rfl
def f87t4 N a f g h i b c d e (K:KT ρ):=vQ (λk=>z0d.Z5 N a f g h i b c d e k) (f87t5 N a f g h i b c d e _) (fx5 λa b c d e=>f87t31 N a b c d e K)
def f87t2 N a b c d e f (K:KT ρ):=vQ (λk=>z0d.Z3 N a b c d e f k) (f87t3 N a b c d e f _) (fx9 λg a b c d e f h i=>f87t4 N g a b c d e f h i K)
def f87t0 N b a (K:KT ρ):=vQ (λk=>z0d.Z1 N b a k) (f87t1 N b a _) (fx6 λa c d e f g=>f87t2 N a c d e f g K)
def f87ok(h:z0d.Spec):z0a Tryz.prog 87 e87 :=
 okC Tryz.func87 z2t f87GOk (λN X K=>f87t0 N X.1 X.2.1 K) (by kernel_rfl) λX hb hp=>by
  obtain⟨a,b,_⟩:=X
  obtain⟨N,h⟩:=h a b hb.1 hp
  exact⟨N,Eq.trans (by kernel_rfl) (h N (Nat.le_refl N))⟩
def e87ok:z0a Tryz.prog 87 e87:=f87ok z0d.ok
end Go.Fw
namespace Go.Fw
variable {ρ : Type}
open Go.Proofs
def f88sig:Sig:=⟨[⟨.sl 3 (.int .i64),false,false⟩,⟨.sl 3 (.int .i64),false,false⟩],[⟨.bool,false,false⟩]⟩
def e88:z29:=⟨f88sig,none,λX=>((),((z2a.g X.1 X.2.1),()))⟩
def f88G:Gm:=z1r
def f88GOk:GOk Tryz.prog f88G:=GOk.nil
def f88lE:z00:=⟨[],[],[],[],[]⟩
def f88s0(a b:LI):St:=z1p f88sig.ps (a,(b,()))
def f88s1(a b:LI):St:=z14 [(0,.c (.sn 3 tI a none)),(1,.c (.sn 3 tI b none))] [] []
def f88l1:z00:=⟨[0,1],[],[],[],[]⟩
def f88s2(a b:LI)(d:Int):St:=z14 [(0,.c (.sn 3 tI a none)),(1,.c (.sn 3 tI b none)),(5,xi d)] [] []
def f88l2:z00:=⟨[0,1,5],[],[],[],[]⟩
def zs0 :St:=z14 [] [] []
def f88l3:z00:=⟨[],[],[],[],[]⟩
def zjo(a:Bool):St:=z14 [(4,xB a)] [] []
def f88l4:z00:=⟨[4],[],[],[],[]⟩
def f88B:Nat->Option z00:=z1b [(0,f88l3),(1000000,f88l4)]
abbrev f88j{ρ:Type}(N n:Nat)(σ:St)(l:z00)(K:KT ρ):Option ρ:=z0r f88G tab f88B N (z2q 99 (z1s Tryz.f88) n) .n σ (z16 (some l) K)
def f88t1 N a b (K:KT ρ):f88j N 2 (f88s0 a b) f88l1 K =
 z2a.Z1 N a b (λa b=>K .nrm (f88s1 a b)):=by kernel_rfl
def f88t3 N a b (K:KT ρ):f88j N 5 (f88s1 a b) f88l1 K =
 z2a.Z3 N a b (λa b=>K .nrm (f88s1 a b)) (λc=>K .ret (zjo c)):=by kernel_rfl
def f88t6 N a b (K:KT ρ):f88j N 19 (f88s1 a b) f88l2 K =
 z2a.Z6 N a b (λa b c=>K .nrm (f88s2 a b c)):=by kernel_rfl
def f88t9 N a b c (K:KT ρ):f88j N 75 (f88s2 a b c) f88l2 K =
 z2a.Z9 N a b c (λa b c=>K .nrm (f88s2 a b c)) (K (.exit 0) zs0) (λd=>K .ret (zjo d)):=by kernel_rfl
def f88t8L N (K:KT ρ):=lp3 K (z2a.Z8L N (K (.exit 0) zs0) (λa=>K .ret (zjo a))) (λb c d k=>z2a.Z9 N b c d k (K (.exit 0) zs0) (λa=>K .ret (zjo a))) (λF b c d=>f88t9 N b c d _) (by kernel_rfl)
def f88t8 N a b c (K:KT ρ):=vL (f88s2 a b c) (f88t8L N (jK f88l3 K) N a b c) (by kernel_rfl)
def f88t7 N a b c (K:KT ρ):=vB 0 f88l3 K (z2a.Z7 N a b c (K .nrm zs0) (λd=>K .ret (zjo d))) (f88t8 N a b c _) (by kernel_rfl)
def f88t5 N a b (K:KT ρ):=vQ (λk=>z2a.Z6 N a b k) (f88t6 N a b _) (fx3 λa b c=>f88t7 N a b c K)
def f88t10 N  (K:KT ρ):f88j N 15 zs0 f88lE K =
 z2a.Z10 N (λa=>K .ret (zjo a)):=by kernel_rfl
def f88t4 N a b (K:KT ρ):=vQ (λk=>z2a.Z5 N a b k (λc=>K .ret (zjo c))) (f88t5 N a b _) (f88t10 N K)
def f88t2 N a b (K:KT ρ):=vQ (λk=>z2a.Z3 N a b k (λc=>K .ret (zjo c))) (f88t3 N a b _) (fx2 λa b=>f88t4 N a b K)
def f88t0 N a b (K:KT ρ):=vQ (λk=>z2a.Z1 N a b k) (f88t1 N a b _) (fx2 λa b=>f88t2 N a b K)
def f88ok(h:z2a.Spec):z0a Tryz.prog 88 e88 :=
 okC Tryz.func88 z2t f88GOk (λN X K=>f88t0 N X.1 X.2.1 K) (by kernel_rfl) λX hb hp=>by
  obtain⟨a,b,_⟩:=X
  obtain⟨N,h⟩:=h a b hb.1 hb.2.1
  exact⟨N,Eq.trans (by kernel_rfl) (h N (Nat.le_refl N))⟩
def e88ok:z0a Tryz.prog 88 e88:=f88ok z2a.ok
end Go.Fw
namespace Go.Fw
variable {ρ : Type}
open Go.Proofs
def f44sig:Sig:=⟨[⟨.pair (.int .i64) (.pair (.int .i64) (.sl 3 (.int .i64))),true,false⟩],[⟨.sl 27 (.pair (.int .i64) (.pair (.int .i64) (.sl 3 (.int .i64)))),false,false⟩,⟨.bool,false,false⟩]⟩
def e44:z29:=⟨f44sig,(some λX=>z0c.P X.1),λX=>((),((z0c.g X.1).1,((z0c.g X.1).2,())))⟩
def f44G:Gm:=z3q (z3q (z3q (z3q z1r 65 e65) 86 e86) 87 e87) 88 e88
def f44GOk:GOk Tryz.prog f44G:=((((GOk.nil).add e65ok (by kernel_rfl)).add e86ok (by kernel_rfl)).add e87ok (by kernel_rfl)).add e88ok (by kernel_rfl)
def f44lE:z00:=⟨[],[],[],[],[]⟩
def f44s0(a:MT):St:=z1p f44sig.ps (a,())
def f44s1(a b:Int)(c:LI):St:=z14 [(1,xb 1)] [(1,(27,[yi a,yi b,.sn 3 tI c none]))] []
def f44l1:z00:=⟨[1],[1],[],[],[]⟩
def f44s2(a:LM)(b c:Int)(d:LI):St:=z14 [(1,xb 1),(4,xo 1000256)] [(1,(27,[yi b,yi c,.sn 3 tI d none]))] [(1000256,(⟨27,tM 3,a,true,false⟩:Row))]
def f44l2:z00:=⟨[1,4],[1],[],[],[(⟨false,4,0⟩,1000256)]⟩
def zbv(a:LM)(b c d:Int)(e:LI):St:=z14 [(1,xb 1),(4,xo 1000256),(5,xi b)] [(1,(27,[yi c,yi d,.sn 3 tI e none]))] [(1000256,(⟨27,tM 3,a,true,false⟩:Row))]
def zjy:z00:=⟨[1,4,5],[1],[],[],[(⟨false,4,0⟩,1000256)]⟩
def zhi(a:LM)(b c d e:Int)(f:LI):St:=z14 [(1,xb 1),(4,xo 1000256),(5,xi b),(6,xi c)] [(1,(27,[yi d,yi e,.sn 3 tI f none]))] [(1000256,(⟨27,tM 3,a,true,false⟩:Row))]
def zpl:z00:=⟨[1,4,5,6],[1],[],[],[(⟨false,4,0⟩,1000256)]⟩
def zpk(a:LM)(b:LI)(c d e f:Int)(g:LI)(h i:Int):St:=z14 [(1,xb 1),(4,xo 1000256),(5,xi c),(6,xi d),(7,xb 7)] [(1,(27,[yi e,yi f,.sn 3 tI g none])),(7,(27,[yi h,yi i,.own 20000450]))] [(1000256,(⟨27,tM 3,a,true,false⟩:Row)),(20000450,(⟨3,.int .i64,b,true,false⟩:Row))]
def f44l5:z00:=⟨[1,4,5,6,7],[1,7],[],[],[(⟨false,4,0⟩,1000256),(⟨true,7,2⟩,20000450)]⟩
def zlr(a:LM)(b:LI)(c d:Int)(e:Bool)(f g:Int)(h:LI)(i j:Int):St:=z14 [(1,xb 1),(4,xo 1000256),(5,xi c),(6,xi d),(7,xb 7),(8,xB e)] [(1,(27,[yi f,yi g,.sn 3 tI h none])),(7,(27,[yi i,yi j,.own 20000450]))] [(1000256,(⟨27,tM 3,a,true,false⟩:Row)),(20000450,(⟨3,.int .i64,b,true,false⟩:Row))]
def f44l6:z00:=⟨[1,4,5,6,7,8],[1,7],[],[],[(⟨false,4,0⟩,1000256),(⟨true,7,2⟩,20000450)]⟩
def f44s7(a:LM)(b:LI)(c d:Int)(e:Bool)(f g h:Int)(i:LI)(j l:Int):St:=z14 [(1,xb 1),(4,xo 1000256),(5,xi c),(6,xi d),(7,xb 7),(8,xB e),(9,xi f)] [(1,(27,[yi g,yi h,.sn 3 tI i none])),(7,(27,[yi j,yi l,.own 20000450]))] [(1000256,(⟨27,tM 3,a,true,false⟩:Row)),(20000450,(⟨3,.int .i64,b,true,false⟩:Row))]
def f44l7:z00:=⟨[1,4,5,6,7,8,9],[1,7],[],[],[(⟨false,4,0⟩,1000256),(⟨true,7,2⟩,20000450)]⟩
def zpj(a:LM):St:=z14 [(4,xo 1000256)] [] [(1000256,(⟨27,tM 3,a,true,false⟩:Row))]
def f44l8:z00:=⟨[4],[],[],[],[(⟨false,4,0⟩,1000256)]⟩
def za4(a:LM)(b:Bool):St:=z14 [(2,xo 1000128),(3,xB b)] [] [(1000128,(⟨27,tM 3,a,true,false⟩:Row))]
def f44l9:z00:=⟨[2,3],[],[⟨⟨false,2,0⟩,30000000,27,.pair (.int .i64) (.pair (.int .i64) (.sl 3 (.int .i64))),true⟩],[],[(⟨false,2,0⟩,1000128)]⟩
def f44B:Nat->Option z00:=z1b [(4,f44l6),(3,zpl),(2,zjy),(1,zjy),(0,f44l8),(1000000,f44l9)]
abbrev zl0{ρ:Type}(N n:Nat)(σ:St)(l:z00)(K:KT ρ):Option ρ:=z0r f44G tab f44B N (z2q 99 (z1s Tryz.f44) n) .n σ (z16 (some l) K)
def f44t1 N a (K:KT ρ):zl0 N 2 (f44s0 a) f44l1 K =
 z0c.Z1 N a (λb c d=>K .nrm (f44s1 b c d)):=by kernel_rfl
def f44t3 N a b c (K:KT ρ):zl0 N 5 (f44s1 a b c) f44l2 K =
 z0c.Z3 N a b c (λd a b c=>K .nrm (f44s2 d a b c)):=by kernel_rfl
def f44t6 N a b c d (K:KT ρ):zl0 N 19 (f44s2 a b c d) zjy K =
 z0c.Z6 N a b c d (λa e b c d=>K .nrm (zbv a e b c d)):=by kernel_rfl
def f44t10 N a b c d e (K:KT ρ):zl0 N 139 (zbv a b c d e) zjy K =
 z0c.Z10 N a b c d e (λa b c d e=>K .nrm (zbv a b c d e)) (λa=>K (.exit 0) (zpj a)):=by kernel_rfl
def f44t14 N a b c d e (K:KT ρ):zl0 N 1099 (zbv a b c d e) zpl K =
 z0c.Z14 N a b c d e (λa b f c d e=>K .nrm (zhi a b f c d e)):=by kernel_rfl
def f44t18 N a b f c d e (K:KT ρ):zl0 N 8779 (zhi a b f c d e) zpl K =
 z0c.Z18 N a b f c d e (λa b f c d e=>K .nrm (zhi a b f c d e)) (λa b c d e=>K (.exit 2) (zbv a b c d e)):=by kernel_rfl
def f44t22 N a b c d e f (K:KT ρ):zl0 N 70219 (zhi a b c d e f) f44l5 K =
 z0c.Z22 N a b c d e f (λa g b c d e f h i=>K .nrm (zpk a g b c d e f h i)):=by kernel_rfl
def f44t24 N a b c d e f g h i (K:KT ρ):zl0 N 168523 (zpk a b c d e f g h i) f44l5 K =
 z0c.Z24 N a b c d e f g h i (λa b c d e f g h i=>K .nrm (zpk a b c d e f g h i)) (λj l=>K .ret (za4 j l)):=by kernel_rfl
def f44t26 N a b c d e f g h i (K:KT ρ):zl0 N 365131 (zpk a b c d e f g h i) f44l5 K =
 z0c.Z26 N a b c d e f g h i (λa b c d e f g h i=>K .nrm (zpk a b c d e f g h i)):=by kernel_rfl
def f44t28 N a b c d e f g h i (K:KT ρ):zl0 N 758347 (zpk a b c d e f g h i) f44l6 K =
 z0c.Z28 N a b c d e f g h i (λa b c d j e f g h i=>K .nrm (zlr a b c d j e f g h i)):=by kernel_rfl
def f44t31 N a b c d e f g h i j (K:KT ρ):zl0 N 2593355 (zlr a b c d e f g h i j) f44l7 K =
 z0c.Z31 N a b c d e f g h i j (λa b c d e l f g h i j=>K .nrm (f44s7 a b c d e l f g h i j)):=by kernel_rfl
def f44t34 N a b c d e l f g h i j (K:KT ρ):zl0 N 9933387 (f44s7 a b c d e l f g h i j) f44l7 K =
 z0c.Z34 N a b c d e l f g h i j (λa b c d e l f g h i j=>K .nrm (f44s7 a b c d e l f g h i j)) (λa b c d e f g h i j=>K (.exit 4) (zlr a b c d e f g h i j)):=by kernel_rfl
def f44t33L N (K:KT ρ):=lp11 K (z0c.Z33L N (λa b c d e f g h i j=>K (.exit 4) (zlr a b c d e f g h i j))) (λa b c d e l f g h i j k=>z0c.Z34 N a b c d e l f g h i j k (λa b c d e f g h i j=>K (.exit 4) (zlr a b c d e f g h i j))) (λF a b c d e l f g h i j=>f44t34 N a b c d e l f g h i j _) (by kernel_rfl)
def f44t33 N a b c d e f g h i j l (K:KT ρ):=vL (f44s7 a b c d e f g h i j l) (f44t33L N (jK f44l6 K) N a b c d e f g h i j l) (by kernel_rfl)
def f44t32 N a b c d e l f g h i j (K:KT ρ):=vB 4 f44l6 K (z0c.Z32 N a b c d e l f g h i j (λa b c d e f g h i j=>K .nrm (zlr a b c d e f g h i j))) (f44t33 N a b c d e l f g h i j _) (by kernel_rfl)
def f44t30 N a b c d e f g h i j (K:KT ρ):=vQ (λk=>z0c.Z31 N a b c d e f g h i j k) (f44t31 N a b c d e f g h i j _) (zky λa b c d e l f g h i j=>f44t32 N a b c d e l f g h i j K)
def f44t35 N a g b c h d e f i j (K:KT ρ):zl0 N 2069067 (zlr a g b c h d e f i j) zpl K =
 z0c.Z35 N a g b c h d e f i j (λa b c d e f=>K .nrm (zhi a b c d e f)) (λl m=>K .ret (za4 l m)):=by kernel_rfl
def f44t29 N a b c d e f g h i j (K:KT ρ):=vQ (λk=>z0c.Z30 N a b c d e f g h i j k) (f44t30 N a b c d e f g h i j _) (zdc λa b c d e f g h i j=>f44t35 N a b c d e f g h i j K)
def f44t27 N a b c d e f g h i (K:KT ρ):=vQ (λk=>z0c.Z28 N a b c d e f g h i k) (f44t28 N a b c d e f g h i _) (zdc λa b c d j e f g h i=>f44t29 N a b c d j e f g h i K)
def f44t25 N a b c d e f g h i (K:KT ρ):=vQ (λk=>z0c.Z26 N a b c d e f g h i k) (f44t26 N a b c d e f g h i _) (fx9 λa b c d e f g h i=>f44t27 N a b c d e f g h i K)
def f44t23 N a b c d e f g h i (K:KT ρ):=vQ (λk=>z0c.Z24 N a b c d e f g h i k (λj l=>K .ret (za4 j l))) (f44t24 N a b c d e f g h i _) (fx9 λa b c d e f g h i=>f44t25 N a b c d e f g h i K)
def f44t21 N a b c d e f (K:KT ρ):=vQ (λk=>z0c.Z22 N a b c d e f k) (f44t22 N a b c d e f _) (fx9 λa g b c d e f h i=>f44t23 N a g b c d e f h i K)
def f44t20 N a b c d e f (K:KT ρ):=vB 3 zpl K (z0c.Z20 N a b c d e f (λa b c d e f=>K .nrm (zhi a b c d e f)) (λg h=>K .ret (za4 g h))) (f44t21 N a b c d e f _) (by kernel_rfl)
def f44t36 N a b c d e f (K:KT ρ):zl0 N 29259 (zhi a b c d e f) zpl K =
 z0c.Z36 N a b c d e f (λa b c d e f=>K .nrm (zhi a b c d e f)):=by kernel_rfl
def f44t19 N a b c d e f (K:KT ρ):=vQ (λk=>z0c.Z20 N a b c d e f k (λg h=>K .ret (za4 g h))) (f44t20 N a b c d e f _) (fx6 λa b c d e f=>f44t36 N a b c d e f K)
def f44t17 N a b f c d e (K:KT ρ):=vQ (λk=>z0c.Z18 N a b f c d e k (λa b c d e=>K (.exit 2) (zbv a b c d e))) (f44t18 N a b f c d e _) (fx6 λa b f c d e=>f44t19 N a b f c d e K)
def f44t16L N (K:KT ρ):=lp6 K (z0c.Z16L N (λa b c d e=>K (.exit 2) (zbv a b c d e)) (λf g=>K .ret (za4 f g))) (λa b h c d e k=>z0c.Z17 N a b h c d e k (λa b c d e=>K (.exit 2) (zbv a b c d e)) (λf g=>K .ret (za4 f g))) (λF a b h c d e=>f44t17 N a b h c d e _) (by kernel_rfl)
def f44t16 N a b c d e f (K:KT ρ):=vL (zhi a b c d e f) (f44t16L N (jK zjy K) N a b c d e f) (by kernel_rfl)
def f44t15 N a b f c d e (K:KT ρ):=vB 2 zjy K (z0c.Z15 N a b f c d e (λa b c d e=>K .nrm (zbv a b c d e)) (λg h=>K .ret (za4 g h))) (f44t16 N a b f c d e _) (by kernel_rfl)
def f44t13 N a b c d e (K:KT ρ):=vQ (λk=>z0c.Z14 N a b c d e k) (f44t14 N a b c d e _) (fx6 λa b f c d e=>f44t15 N a b f c d e K)
def f44t12 N a b c d e (K:KT ρ):=vB 1 zjy K (z0c.Z12 N a b c d e (λa b c d e=>K .nrm (zbv a b c d e)) (λf g=>K .ret (za4 f g))) (f44t13 N a b c d e _) (by kernel_rfl)
def f44t37 N a b c d e (K:KT ρ):zl0 N 459 (zbv a b c d e) zjy K =
 z0c.Z37 N a b c d e (λa b c d e=>K .nrm (zbv a b c d e)):=by kernel_rfl
def f44t11 N a b c d e (K:KT ρ):=vQ (λk=>z0c.Z12 N a b c d e k (λf g=>K .ret (za4 f g))) (f44t12 N a b c d e _) (fx5 λa b c d e=>f44t37 N a b c d e K)
def f44t9 N a b c d e (K:KT ρ):=vQ (λk=>z0c.Z10 N a b c d e k (λa=>K (.exit 0) (zpj a))) (f44t10 N a b c d e _) (fx5 λa b c d e=>f44t11 N a b c d e K)
def f44t8L N (K:KT ρ):=lp5 K (z0c.Z8L N (λa=>K (.exit 0) (zpj a)) (λb c=>K .ret (za4 b c))) (λa d e f g k=>z0c.Z9 N a d e f g k (λa=>K (.exit 0) (zpj a)) (λb c=>K .ret (za4 b c))) (λF a d e f g=>f44t9 N a d e f g _) (by kernel_rfl)
def f44t8 N a b c d e (K:KT ρ):=vL (zbv a b c d e) (f44t8L N (jK f44l8 K) N a b c d e) (by kernel_rfl)
def f44t7 N a b c d e (K:KT ρ):=vB 0 f44l8 K (z0c.Z7 N a b c d e (λa=>K .nrm (zpj a)) (λf g=>K .ret (za4 f g))) (f44t8 N a b c d e _) (by kernel_rfl)
def f44t5 N a b c d (K:KT ρ):=vQ (λk=>z0c.Z6 N a b c d k) (f44t6 N a b c d _) (fx5 λa e b c d=>f44t7 N a e b c d K)
def f44t38 N a (K:KT ρ):zl0 N 15 (zpj a) f44lE K =
 z0c.Z38 N a (λb c=>K .ret (za4 b c)):=by kernel_rfl
def f44t4 N a b c d (K:KT ρ):=vQ (λk=>z0c.Z5 N a b c d k (λe f=>K .ret (za4 e f))) (f44t5 N a b c d _) (funext λa=>f44t38 N a K)
def f44t2 N a b c (K:KT ρ):=vQ (λk=>z0c.Z3 N a b c k) (f44t3 N a b c _) (fx4 λd a b c=>f44t4 N d a b c K)
def f44t0 N a (K:KT ρ):=vQ (λk=>z0c.Z1 N a k) (f44t1 N a _) (fx3 λb c d=>f44t2 N b c d K)
def f44ok(h:z0c.Spec):z0a Tryz.prog 44 e44 :=
 okC Tryz.func44 z2t f44GOk (λN X K=>f44t0 N X.1 K) (by kernel_rfl) λX hb hp=>by
  obtain⟨a,_⟩:=X
  obtain⟨N,h⟩:=h a hb.1 hp
  exact⟨N,Eq.trans (by kernel_rfl) (h N (Nat.le_refl N))⟩
def e44ok:z0a Tryz.prog 44 e44:=f44ok z0c.ok
end Go.Fw
namespace Go.Fw
variable {ρ : Type}
open Go.Proofs
def f45ps:List PT:=[⟨.sl 22 (.sl 3 (.int .i64)),false,false⟩]
def e45:zb3:=⟨f45ps,22,.sl 3 (.int .i64),(some λX=>z0b.P X.1),λX=>z0b.g X.1⟩
def f45G:Gm:=z3q z1r 89 e89
def f45GOk:GOk Tryz.prog f45G:=(GOk.nil).add e89ok (by kernel_rfl)
def f45lE:z00:=⟨[],[],[],[],[]⟩
def f45s0(a:LL):St:=zbo f45ps (a,())
def f45s1(a:LL):St:=z14 [(0,.c (.sn 22 (.sl 3 tI) a none))] [] []
def f45l1:z00:=⟨[0],[],[],[],[]⟩
def zjw(a:LL):St:=z14 [(3,xo 1000192)] [] [(1000192,(⟨22,.sl 3 tI,a,false,false⟩:Row))]
def f45l2:z00:=⟨[3],[],[],[],[(⟨false,3,0⟩,1000192)]⟩
def zhh(a:LL)(b:Int):St:=z14 [(3,xo 1000192),(4,xi b)] [] [(1000192,(⟨22,.sl 3 tI,a,false,false⟩:Row))]
def zpi:z00:=⟨[3,4],[],[],[],[(⟨false,3,0⟩,1000192)]⟩
def f45s4(a b:LL)(c:Int):St:=z14 [(3,xo 1000192),(4,xi c),(5,xo 1000320)] [] [(1000192,(⟨22,.sl 3 tI,a,false,false⟩:Row)),(1000320,(⟨22,.sl 3 tI,b,false,false⟩:Row))]
def f45l4:z00:=⟨[3,4,5],[],[⟨⟨false,5,0⟩,30000000,22,.sl 3 (.int .i64),false⟩],[],[(⟨false,3,0⟩,1000192),(⟨false,5,0⟩,1000320)]⟩
def zd2(a b:LL)(c d:Int):St:=z14 [(3,xo 1000192),(4,xi c),(5,xo 1000320),(6,xi d)] [] [(1000192,(⟨22,.sl 3 tI,a,false,false⟩:Row)),(1000320,(⟨22,.sl 3 tI,b,false,false⟩:Row))]
def zjx:z00:=⟨[3,4,5,6],[],[],[],[(⟨false,3,0⟩,1000192),(⟨false,5,0⟩,1000320)]⟩
def f45s6(a b:LL)(c d e:Int):St:=z14 [(3,xo 1000192),(4,xi c),(5,xo 1000320),(6,xi d),(7,xi e)] [] [(1000192,(⟨22,.sl 3 tI,a,false,false⟩:Row)),(1000320,(⟨22,.sl 3 tI,b,false,false⟩:Row))]
def f45l6:z00:=⟨[3,4,5,6,7],[],[],[],[(⟨false,3,0⟩,1000192),(⟨false,5,0⟩,1000320)]⟩
def f45s7(a b:LL)(c d e f:Int):St:=z14 [(3,xo 1000192),(4,xi c),(5,xo 1000320),(6,xi d),(7,xi e),(8,xi f)] [] [(1000192,(⟨22,.sl 3 tI,a,false,false⟩:Row)),(1000320,(⟨22,.sl 3 tI,b,false,false⟩:Row))]
def f45l7:z00:=⟨[3,4,5,6,7,8],[],[],[],[(⟨false,3,0⟩,1000192),(⟨false,5,0⟩,1000320)]⟩
def f45s8(a b:LL)(c d e f g:Int):St:=z14 [(3,xo 1000192),(4,xi c),(5,xo 1000320),(6,xi d),(7,xi e),(8,xi f),(9,xi g)] [] [(1000192,(⟨22,.sl 3 tI,a,false,false⟩:Row)),(1000320,(⟨22,.sl 3 tI,b,false,false⟩:Row))]
def f45l8:z00:=⟨[3,4,5,6,7,8,9],[],[],[],[(⟨false,3,0⟩,1000192),(⟨false,5,0⟩,1000320)]⟩
def f45s9(a b:LL)(c d e f g h:Int):St:=z14 [(3,xo 1000192),(4,xi c),(5,xo 1000320),(6,xi d),(7,xi e),(8,xi f),(9,xi g),(10,xi h)] [] [(1000192,(⟨22,.sl 3 tI,a,false,false⟩:Row)),(1000320,(⟨22,.sl 3 tI,b,false,false⟩:Row))]
def f45l9:z00:=⟨[3,4,5,6,7,8,9,10],[],[],[],[(⟨false,3,0⟩,1000192),(⟨false,5,0⟩,1000320)]⟩
def zfz(a:LL)(b:Int):St:=z14 [(4,xi b),(5,xo 1000320)] [] [(1000320,(⟨22,.sl 3 tI,a,false,false⟩:Row))]
def zse:z00:=⟨[4,5],[],[],[],[(⟨false,5,0⟩,1000320)]⟩
def f45s11(a:LL):St:=z14 [(2,xo 1000128)] [] [(1000128,(⟨22,.sl 3 tI,a,false,false⟩:Row))]
def f45l11:z00:=⟨[2],[],[],[],[(⟨false,2,0⟩,1000128)]⟩
def f45B:Nat->Option z00:=z1b [(4,zjx),(3,zjx),(2,zse),(1,zpi),(0,f45l2),(1000000,f45l11)]
abbrev zkz{ρ:Type}(N n:Nat)(σ:St)(l:z00)(K:KT ρ):Option ρ:=z0r f45G tab f45B N (z2q 99 (z1s Tryz.f45) n) .n σ (z16 (some l) K)
def f45t1 N a (K:KT ρ):zkz N 2 (f45s0 a) f45l1 K =
 z0b.Z1 N a (λa=>K .nrm (f45s1 a)):=by kernel_rfl
def f45t3 N a (K:KT ρ):zkz N 5 (f45s1 a) f45l2 K =
 z0b.Z3 N a (λb=>K .nrm (zjw b)):=by kernel_rfl
def f45t6 N a (K:KT ρ):zkz N 19 (zjw a) zpi K =
 z0b.Z6 N a (λa b=>K .nrm (zhh a b)):=by kernel_rfl
def f45t10 N a b (K:KT ρ):zkz N 139 (zhh a b) zpi K =
 z0b.Z10 N a b (λa b=>K .nrm (zhh a b)) (λa=>K (.exit 0) (zjw a)):=by kernel_rfl
def f45t14 N a b (K:KT ρ):zkz N 1099 (zhh a b) f45l4 K =
 z0b.Z14 N a b (λa c b=>K .nrm (f45s4 a c b)):=by kernel_rfl
def f45t17 N a b c (K:KT ρ):zkz N 4683 (f45s4 a b c) zjx K =
 z0b.Z17 N a b c (λa b c d=>K .nrm (zd2 a b c d)):=by kernel_rfl
def f45t21 N c a b d (K:KT ρ):zkz N 35403 (zd2 c a b d) zjx K =
 z0b.Z21 N c a b d (λc a b d=>K .nrm (zd2 c a b d)) (λa b=>K (.exit 2) (zfz a b)):=by kernel_rfl
def f45t25 N a b c d (K:KT ρ):zkz N 281163 (zd2 a b c d) f45l6 K =
 z0b.Z25 N a b c d (λa b c d e=>K .nrm (f45s6 a b c d e)):=by kernel_rfl
def f45t27 N a b c d e (K:KT ρ):zkz N 674379 (f45s6 a b c d e) f45l7 K =
 z0b.Z27 N a b c d e (λa b c d e f=>K .nrm (f45s7 a b c d e f)):=by kernel_rfl
def f45t29 N a b c d e f (K:KT ρ):zkz N 1460811 (f45s7 a b c d e f) f45l8 K =
 z0b.Z29 N a b c d e f (λa b c d e f g=>K .nrm (f45s8 a b c d e f g)):=by kernel_rfl
def f45t31 N a b c d e f g (K:KT ρ):zkz N 3033675 (f45s8 a b c d e f g) f45l9 K =
 z0b.Z31 N a b c d e f g (λa b c d e f g h=>K .nrm (f45s9 a b c d e f g h)):=by kernel_rfl
def f45t34 N a b c d e f g h (K:KT ρ):zkz N 10373707 (f45s9 a b c d e f g h) f45l9 K =
 z0b.Z34 N a b c d e f g h (λa b c d e f g h=>K .nrm (f45s9 a b c d e f g h)) (λa b c d=>K (.exit 4) (zd2 a b c d)):=by kernel_rfl
def f45t33L N (K:KT ρ):=lp8 K (z0b.Z33L N (λa b c d=>K (.exit 4) (zd2 a b c d))) (λa b c d e f g h k=>z0b.Z34 N a b c d e f g h k (λa b c d=>K (.exit 4) (zd2 a b c d))) (λF a b c d e f g h=>f45t34 N a b c d e f g h _) (by kernel_rfl)
def f45t33 N a b c d e f g h (K:KT ρ):=vL (f45s9 a b c d e f g h) (f45t33L N (jK zjx K) N a b c d e f g h) (by kernel_rfl)
def f45t32 N a b c d e f g h (K:KT ρ):=vB 4 zjx K (z0b.Z32 N a b c d e f g h (λa b c d=>K .nrm (zd2 a b c d))) (f45t33 N a b c d e f g h _) (by kernel_rfl)
def f45t30 N a b c d e f g (K:KT ρ):=vQ (λk=>z0b.Z31 N a b c d e f g k) (f45t31 N a b c d e f g _) (fx8 λa b c d e f g h=>f45t32 N a b c d e f g h K)
def f45t28 N a b c d e f (K:KT ρ):=vQ (λk=>z0b.Z29 N a b c d e f k) (f45t29 N a b c d e f _) (fx7 λa b c d e f g=>f45t30 N a b c d e f g K)
def f45t26 N a b c d e (K:KT ρ):=vQ (λk=>z0b.Z27 N a b c d e k) (f45t27 N a b c d e _) (fx6 λa b c d e f=>f45t28 N a b c d e f K)
def f45t24 N a b c d (K:KT ρ):=vQ (λk=>z0b.Z25 N a b c d k) (f45t25 N a b c d _) (fx5 λa b c d e=>f45t26 N a b c d e K)
def f45t23 N a b c d (K:KT ρ):=vB 3 zjx K (z0b.Z23 N a b c d (λa b c d=>K .nrm (zd2 a b c d))) (f45t24 N a b c d _) (by kernel_rfl)
def f45t35 N a b c d (K:KT ρ):zkz N 117323 (zd2 a b c d) zjx K =
 z0b.Z35 N a b c d (λa b c d=>K .nrm (zd2 a b c d)):=by kernel_rfl
def f45t22 N a b c d (K:KT ρ):=vQ (λk=>z0b.Z23 N a b c d k) (f45t23 N a b c d _) (fx4 λa b c d=>f45t35 N a b c d K)
def f45t20 N c a b d (K:KT ρ):=vQ (λk=>z0b.Z21 N c a b d k (λa b=>K (.exit 2) (zfz a b))) (f45t21 N c a b d _) (fx4 λc a b d=>f45t22 N c a b d K)
def f45t19L N (K:KT ρ):=lp4 K (z0b.Z19L N (λa b=>K (.exit 2) (zfz a b))) (λc a b d k=>z0b.Z20 N c a b d k (λa b=>K (.exit 2) (zfz a b))) (λF c a b d=>f45t20 N c a b d _) (by kernel_rfl)
def f45t19 N a b c d (K:KT ρ):=vL (zd2 a b c d) (f45t19L N (jK zse K) N a b c d) (by kernel_rfl)
def f45t18 N c a b d (K:KT ρ):=vB 2 zse K (z0b.Z18 N c a b d (λa b=>K .nrm (zfz a b))) (f45t19 N c a b d _) (by kernel_rfl)
def f45t16 N a b c (K:KT ρ):=vQ (λk=>z0b.Z17 N a b c k) (f45t17 N a b c _) (fx4 λa b c d=>f45t18 N a b c d K)
def f45t36 N b a (K:KT ρ):zkz N 3659 (zfz b a) zpi K =
 z0b.Z36 N b a (λc a=>K .nrm (zhh c a)):=by kernel_rfl
def f45t15 N c a b (K:KT ρ):=vQ (λk=>z0b.Z16 N c a b k) (f45t16 N c a b _) (fx2 λa b=>f45t36 N a b K)
def f45t13 N a b (K:KT ρ):=vQ (λk=>z0b.Z14 N a b k) (f45t14 N a b _) (fx3 λa c b=>f45t15 N a c b K)
def f45t12 N a b (K:KT ρ):=vB 1 zpi K (z0b.Z12 N a b (λa b=>K .nrm (zhh a b))) (f45t13 N a b _) (by kernel_rfl)
def f45t37 N a b (K:KT ρ):zkz N 459 (zhh a b) zpi K =
 z0b.Z37 N a b (λa b=>K .nrm (zhh a b)):=by kernel_rfl
def f45t11 N a b (K:KT ρ):=vQ (λk=>z0b.Z12 N a b k) (f45t12 N a b _) (fx2 λa b=>f45t37 N a b K)
def f45t9 N a b (K:KT ρ):=vQ (λk=>z0b.Z10 N a b k (λa=>K (.exit 0) (zjw a))) (f45t10 N a b _) (fx2 λa b=>f45t11 N a b K)
def f45t8L N (K:KT ρ):=lp2 K (z0b.Z8L N (λa=>K (.exit 0) (zjw a))) (λa b k=>z0b.Z9 N a b k (λa=>K (.exit 0) (zjw a))) (λF a b=>f45t9 N a b _) (by kernel_rfl)
def f45t8 N a b (K:KT ρ):=vL (zhh a b) (f45t8L N (jK f45l2 K) N a b) (by kernel_rfl)
def f45t7 N a b (K:KT ρ):=vB 0 f45l2 K (z0b.Z7 N a b (λa=>K .nrm (zjw a))) (f45t8 N a b _) (by kernel_rfl)
def f45t5 N a (K:KT ρ):=vQ (λk=>z0b.Z6 N a k) (f45t6 N a _) (fx2 λa b=>f45t7 N a b K)
def f45t38 N a (K:KT ρ):zkz N 15 (zjw a) f45lE K =
 z0b.Z38 N a (λb=>K .ret (f45s11 b)):=by kernel_rfl
def f45t4 N a (K:KT ρ):=vQ (λk=>z0b.Z5 N a k) (f45t5 N a _) (funext λa=>f45t38 N a K)
def f45t2 N a (K:KT ρ):=vQ (λk=>z0b.Z3 N a k) (f45t3 N a _) (funext λb=>f45t4 N b K)
def f45t0 N a (K:KT ρ):=vQ (λk=>z0b.Z1 N a k) (f45t1 N a _) (funext λa=>f45t2 N a K)
def f45ok(h:z0b.Spec):z6o Tryz.prog 45 e45 :=
 okS Tryz.func45 z2t f45GOk (λN X K=>f45t0 N X.1 K) (by kernel_rfl) λX hb hp=>by
  obtain⟨a,_⟩:=X
  obtain⟨N,h⟩:=h a hb.1 hp
  exact⟨N,Eq.trans (by kernel_rfl) (h N (Nat.le_refl N))⟩
def e45ok:z6o Tryz.prog 45 e45:=f45ok z0b.ok
end Go.Fw
namespace Go.Fw
variable {ρ : Type}
open Go.Proofs
def f14sig:Sig:=⟨[⟨.pair (.int .i64) (.pair (.int .i64) (.sl 3 (.int .i64))),true,false⟩],[⟨.sl 27 (.pair (.int .i64) (.pair (.int .i64) (.sl 3 (.int .i64)))),false,false⟩,⟨.bool,false,false⟩]⟩
def e14:z29:=⟨f14sig,none,λX=>((),((z07.g X.1).1,((z07.g X.1).2,())))⟩
def f14G:Gm:=z3q (addS (z3q (z3q z1r 25 e25) 44 e44) 45 e45) 46 e46
def f14GOk:GOk Tryz.prog f14G:=((((GOk.nil).add e25ok (by kernel_rfl)).add e44ok (by kernel_rfl)).addS e45ok).add e46ok (by kernel_rfl)
def f14lE:z00:=⟨[],[],[],[],[]⟩
def f14s0(a:MT):St:=z1p f14sig.ps (a,())
def f14s1(a b:Int)(c:LI):St:=z14 [(1,xb 1)] [(1,(27,[yi a,yi b,.sn 3 tI c none]))] []
def f14l1:z00:=⟨[1],[1],[],[],[]⟩
def f14s2(a:LM)(b:Bool)(c d:Int)(e:LI):St:=z14 [(1,xb 1),(4,xo 1000256),(5,xB b)] [(1,(27,[yi c,yi d,.sn 3 tI e none]))] [(1000256,(⟨27,tM 3,a,true,false⟩:Row))]
def f14l2:z00:=⟨[1,4,5],[1],[],[],[(⟨false,4,0⟩,1000256)]⟩
def f14s3(a:LM)(b c:Int)(d:LI):St:=z14 [(1,xb 1),(4,xo 1000256)] [(1,(27,[yi b,yi c,.sn 3 tI d none]))] [(1000256,(⟨27,tM 3,a,true,false⟩:Row))]
def f14l3:z00:=⟨[1,4],[1],[],[],[(⟨false,4,0⟩,1000256)]⟩
def f14s4(a:LM)(b:LL)(c d:Int)(e:LI):St:=z14 [(1,xb 1),(4,xo 1000256),(6,xo 1000384)] [(1,(27,[yi c,yi d,.sn 3 tI e none]))] [(1000256,(⟨27,tM 3,a,true,false⟩:Row)),(1000384,(⟨22,.sl 3 tI,b,false,false⟩:Row))]
def f14l4:z00:=⟨[1,4,6],[1],[⟨⟨false,6,0⟩,30000000,22,.sl 3 (.int .i64),false⟩],[],[(⟨false,4,0⟩,1000256),(⟨false,6,0⟩,1000384)]⟩
def f14s5(a:LM)(b:LL)(c d e:Int)(f:LI):St:=z14 [(1,xb 1),(4,xo 1000256),(6,xo 1000384),(7,xi c)] [(1,(27,[yi d,yi e,.sn 3 tI f none]))] [(1000256,(⟨27,tM 3,a,true,false⟩:Row)),(1000384,(⟨22,.sl 3 tI,b,false,false⟩:Row))]
def f14l5:z00:=⟨[1,4,6,7],[1],[],[],[(⟨false,4,0⟩,1000256),(⟨false,6,0⟩,1000384)]⟩
def f14s6(a:LL)(b:LM)(d e f:Int)(g:LI):St:=z14 [(1,xb 1),(4,.c (.sn 27 (tM 3) b none)),(6,xo 1000384),(7,xi d)] [(1,(27,[yi e,yi f,.sn 3 tI g none]))] [(1000384,(⟨22,.sl 3 tI,a,false,false⟩:Row))]
def f14l6:z00:=⟨[1,4,6,7],[1],[],[(⟨false,4,0⟩,27,.pair (.int .i64) (.pair (.int .i64) (.sl 3 (.int .i64))))],[(⟨false,6,0⟩,1000384)]⟩
def f14s7(a:LL)(b d:Int)(e:LI):St:=z14 [(1,xb 1),(6,.c (.sn 22 (.sl 3 tI) a none))] [(1,(27,[yi b,yi d,.sn 3 tI e none]))] []
def f14l7:z00:=⟨[1,6],[1],[],[(⟨false,6,0⟩,22,.sl 3 (.int .i64))],[]⟩
def f14s8(a:LL)(b d:Int)(e:LI):St:=z14 [(1,xb 1),(6,.c (.sn 22 (.sl 3 tI) a none))] [(1,(27,[yi b,yi d,.sn 3 tI e none]))] []
def f14l8:z00:=⟨[1,6],[1],[],[],[]⟩
def f14s9(a:LL)(b c:Int)(d:LI):St:=z14 [(1,xb 1),(6,xo 1000384)] [(1,(27,[yi b,yi c,.sn 3 tI d none]))] [(1000384,(⟨22,.sl 3 tI,a,false,false⟩:Row))]
def f14l9:z00:=⟨[1,6],[1],[],[],[(⟨false,6,0⟩,1000384)]⟩
def f14s10(a:LL)(b:LM)(c d:Int)(e:LI):St:=z14 [(1,xb 1),(6,xo 1000384),(8,xo 1000512)] [(1,(27,[yi c,yi d,.sn 3 tI e none]))] [(1000384,(⟨22,.sl 3 tI,a,false,false⟩:Row)),(1000512,(⟨27,tM 3,b,true,false⟩:Row))]
def f14l10:z00:=⟨[1,6,8],[1],[],[],[(⟨false,6,0⟩,1000384),(⟨false,8,0⟩,1000512)]⟩
def znp(a:LL)(b:LM)(c d e:Int)(f:LI):St:=z14 [(1,xb 1),(6,xo 1000384),(8,xo 1000512),(9,xi c)] [(1,(27,[yi d,yi e,.sn 3 tI f none]))] [(1000384,(⟨22,.sl 3 tI,a,false,false⟩:Row)),(1000512,(⟨27,tM 3,b,true,false⟩:Row))]
def f14l11:z00:=⟨[1,6,8,9],[1],[],[],[(⟨false,6,0⟩,1000384),(⟨false,8,0⟩,1000512)]⟩
def zk5(a:LM):St:=z14 [(8,xo 1000512)] [] [(1000512,(⟨27,tM 3,a,true,false⟩:Row))]
def zsq:z00:=⟨[8],[],[],[],[(⟨false,8,0⟩,1000512)]⟩
def zk4(a:LM)(b:Bool):St:=z14 [(2,xo 1000128),(3,xB b)] [] [(1000128,(⟨27,tM 3,a,true,false⟩:Row))]
def f14l13:z00:=⟨[2,3],[],[⟨⟨false,2,0⟩,30000000,27,.pair (.int .i64) (.pair (.int .i64) (.sl 3 (.int .i64))),true⟩],[],[(⟨false,2,0⟩,1000128)]⟩
def f14B:Nat->Option z00:=z1b [(0,f14l7),(2,zsq),(1000000,f14l13)]
abbrev zq6{ρ:Type}(N n:Nat)(σ:St)(l:z00)(K:KT ρ):Option ρ:=z0r f14G tab f14B N (z2q 99 (z1s Tryz.f14) n) .n σ (z16 (some l) K)
def f14t1 N a (K:KT ρ):zq6 N 2 (f14s0 a) f14l1 K =
 z07.Z1 N a (λb c d=>K .nrm (f14s1 b c d)):=by kernel_rfl
def f14t3 N a b c (K:KT ρ):zq6 N 5 (f14s1 a b c) f14l1 K =
 z07.Z3 N a b c (λa b c=>K .nrm (f14s1 a b c)) (λd e=>K .ret (zk4 d e)):=by kernel_rfl
def f14t5 N a b c (K:KT ρ):zq6 N 11 (f14s1 a b c) f14l2 K =
 z07.Z5 N a b c (λd e a b c=>K .nrm (f14s2 d e a b c)):=by kernel_rfl
def f14t7 N a e b c d (K:KT ρ):zq6 N 23 (f14s2 a e b c d) f14l3 K =
 z07.Z7 N a e b c d (λa b c d=>K .nrm (f14s3 a b c d)) (λf g=>K .ret (zk4 f g)):=by kernel_rfl
def f14t9 N a b c d (K:KT ρ):zq6 N 47 (f14s3 a b c d) f14l4 K =
 z07.Z9 N a b c d (λa e b c d=>K .nrm (f14s4 a e b c d)):=by kernel_rfl
def f14t12 N a b c d e (K:KT ρ):zq6 N 159 (f14s4 a b c d e) f14l5 K =
 z07.Z12 N a b c d e (λa b f c d e=>K .nrm (f14s5 a b f c d e)):=by kernel_rfl
def f14t15 N a e f b c d (K:KT ρ):zq6 N 607 (f14s6 a e f b c d) f14l6 K =
 z07.Z15 N a e f b c d (λa e f b c d=>K .nrm (f14s6 a e f b c d)) (λa b c d=>K (.exit 0) (f14s7 a b c d)):=by kernel_rfl
def f14t14L N (K:KT ρ):=lp6 K (z07.Z14L N (λa b c d=>K (.exit 0) (f14s7 a b c d))) (λa e f b c d k=>z07.Z15 N a e f b c d k (λa b c d=>K (.exit 0) (f14s7 a b c d))) (λF a e f b c d=>f14t15 N a e f b c d _) (by kernel_rfl)
def f14t14 N a b c d e f (K:KT ρ):=vL (f14s5 a b c d e f) (f14t14L N (jK f14l7 K) N b a c d e f) (by kernel_rfl)
def f14t13 N e a f b c d (K:KT ρ):=vB 0 f14l8 K (z07.Z13 N e a f b c d (λa b c d=>K .nrm (f14s8 a b c d))) (f14t14 N e a f b c d _) (by kernel_rfl)
def f14t11 N a b c d e (K:KT ρ):=vQ (λk=>z07.Z12 N a b c d e k) (f14t12 N a b c d e _) (fx6 λa b f c d e=>f14t13 N a b f c d e K)
def f14t17 N a b c d (K:KT ρ):zq6 N 191 (f14s8 a b c d) f14l9 K =
 z07.Z17 N a b c d (λa b c d=>K .nrm (f14s9 a b c d)):=by kernel_rfl
def f14t19 N a b c d (K:KT ρ):zq6 N 383 (f14s9 a b c d) f14l10 K =
 z07.Z19 N a b c d (λa e b c d=>K .nrm (f14s10 a e b c d)):=by kernel_rfl
def f14t22 N a b c d e (K:KT ρ):zq6 N 1279 (f14s10 a b c d e) f14l11 K =
 z07.Z22 N a b c d e (λa b f c d e=>K .nrm (znp a b f c d e)):=by kernel_rfl
def f14t25 N b a c d e f (K:KT ρ):zq6 N 4863 (znp b a c d e f) f14l11 K =
 z07.Z25 N b a c d e f (λb a c d e f=>K .nrm (znp b a c d e f)) (λa=>K (.exit 2) (zk5 a)):=by kernel_rfl
def f14t24L N (K:KT ρ):=lp6 K (z07.Z24L N (λa=>K (.exit 2) (zk5 a))) (λb a c d e f k=>z07.Z25 N b a c d e f k (λa=>K (.exit 2) (zk5 a))) (λF b a c d e f=>f14t25 N b a c d e f _) (by kernel_rfl)
def f14t24 N a b c d e f (K:KT ρ):=vL (znp a b c d e f) (f14t24L N (jK zsq K) N a b c d e f) (by kernel_rfl)
def f14t23 N b a c d e f (K:KT ρ):=vB 2 zsq K (z07.Z23 N b a c d e f (λa=>K .nrm (zk5 a))) (f14t24 N b a c d e f _) (by kernel_rfl)
def f14t21 N a b c d e (K:KT ρ):=vQ (λk=>z07.Z22 N a b c d e k) (f14t22 N a b c d e _) (fx6 λa b f c d e=>f14t23 N a b f c d e K)
def f14t26 N a (K:KT ρ):zq6 N 1023 (zk5 a) f14lE K =
 z07.Z26 N a (λb c=>K .ret (zk4 b c)):=by kernel_rfl
def f14t20 N b a c d e (K:KT ρ):=vQ (λk=>z07.Z21 N b a c d e k) (f14t21 N b a c d e _) (funext λa=>f14t26 N a K)
def f14t18 N a b c d (K:KT ρ):=vQ (λk=>z07.Z19 N a b c d k) (f14t19 N a b c d _) (fx5 λa e b c d=>f14t20 N a e b c d K)
def f14t16 N a b c d (K:KT ρ):=vQ (λk=>z07.Z17 N a b c d k) (f14t17 N a b c d _) (fx4 λa b c d=>f14t18 N a b c d K)
def f14t10 N e a b c d (K:KT ρ):=vQ (λk=>z07.Z11 N e a b c d k) (f14t11 N e a b c d _) (fx4 λa b c d=>f14t16 N a b c d K)
def f14t8 N a b c d (K:KT ρ):=vQ (λk=>z07.Z9 N a b c d k) (f14t9 N a b c d _) (fx5 λa e b c d=>f14t10 N a e b c d K)
def f14t6 N a e b c d (K:KT ρ):=vQ (λk=>z07.Z7 N a e b c d k (λf g=>K .ret (zk4 f g))) (f14t7 N a e b c d _) (fx4 λa b c d=>f14t8 N a b c d K)
def f14t4 N a b c (K:KT ρ):=vQ (λk=>z07.Z5 N a b c k) (f14t5 N a b c _) (fx5 λd e a b c=>f14t6 N d e a b c K)
def f14t2 N a b c (K:KT ρ):=vQ (λk=>z07.Z3 N a b c k (λd e=>K .ret (zk4 d e))) (f14t3 N a b c _) (fx3 λa b c=>f14t4 N a b c K)
def f14t0 N a (K:KT ρ):=vQ (λk=>z07.Z1 N a k) (f14t1 N a _) (fx3 λb c d=>f14t2 N b c d K)
def f14ok(h:z07.Spec):z0a Tryz.prog 14 e14 :=
 okC Tryz.func14 z2t f14GOk (λN X K=>f14t0 N X.1 K) (by kernel_rfl) λX hb hp=>by
  obtain⟨a,_⟩:=X
  obtain⟨N,h⟩:=h a hb.1
  exact⟨N,Eq.trans (by kernel_rfl) (h N (Nat.le_refl N))⟩
def e14ok:z0a Tryz.prog 14 e14:=f14ok z07.ok
end Go.Fw
namespace Go.Fw
variable {ρ : Type}
open Go.Proofs
def f91sig:Sig:=⟨[⟨.int .i64,false,false⟩,⟨.int .i64,false,false⟩,⟨.int .i64,false,false⟩],[⟨.bool,false,false⟩]⟩
def e91:z29:=⟨f91sig,none,λX=>((),((z2j.g X.1 X.2.1 X.2.2.1),()))⟩
def f91G:Gm:=z1r
def f91GOk:GOk Tryz.prog f91G:=GOk.nil
def f91lE:z00:=⟨[],[],[],[],[]⟩
def f91s0(a b c:Int):St:=z1p f91sig.ps (a,(b,(c,())))
def f91s1(a:Bool):St:=z14 [(6,xB a)] [] []
def f91l1:z00:=⟨[6],[],[],[],[]⟩
def f91B:Nat->Option z00:=z1b [(1000000,f91l1)]
abbrev f91j{ρ:Type}(N n:Nat)(σ:St)(l:z00)(K:KT ρ):Option ρ:=z0r f91G tab f91B N (z2q 99 (z1s Tryz.f91) n) .n σ (z16 (some l) K)
def f91t0 N a b c (K:KT ρ):f91j N 1 (f91s0 a b c) f91lE K =
 z2j.Z0 N a b c (λd=>K .ret (f91s1 d)):=by kernel_rfl
def f91ok(h:z2j.Spec):z0a Tryz.prog 91 e91 :=
 okC Tryz.func91 z2t f91GOk (λN X K=>f91t0 N X.1 X.2.1 X.2.2.1 K) (by kernel_rfl) λX hb hp=>by
  obtain⟨a,b,c,_⟩:=X
  obtain⟨N,h⟩:=h a b c
  exact⟨N,Eq.trans (by kernel_rfl) (h N (Nat.le_refl N))⟩
def e91ok:z0a Tryz.prog 91 e91:=f91ok z2j.ok
end Go.Fw
namespace Go.Fw
variable {ρ : Type}
open Go.Proofs
def zst:Sig:=⟨[⟨.int .i64,false,false⟩],[⟨.bool,false,false⟩]⟩
def e142:z29:=⟨zst,none,λX=>((),((z1w.g X.1),()))⟩
def f142G:Gm:=z3q z1r 91 e91
def f142GOk:GOk Tryz.prog f142G:=(GOk.nil).add e91ok (by kernel_rfl)
def f142lE:z00:=⟨[],[],[],[],[]⟩
def f142s0(a:Int):St:=z1p zst.ps (a,())
def f142s1(a:Bool):St:=z14 [(2,xB a)] [] []
def f142l1:z00:=⟨[2],[],[],[],[]⟩
def f142B:Nat->Option z00:=z1b [(1000000,f142l1)]
abbrev f142j{ρ:Type}(N n:Nat)(σ:St)(l:z00)(K:KT ρ):Option ρ:=z0r f142G tab f142B N (z2q 99 (z1s Tryz.f142) n) .n σ (z16 (some l) K)
def f142t0 N a (K:KT ρ):f142j N 1 (f142s0 a) f142lE K =
 z1w.Z0 N a (λb=>K .ret (f142s1 b)):=by kernel_rfl
def f142ok(h:z1w.Spec):z0a Tryz.prog 142 e142 :=
 okC Tryz.func142 z2t f142GOk (λN X K=>f142t0 N X.1 K) (by kernel_rfl) λX hb hp=>by
  obtain⟨a,_⟩:=X
  obtain⟨N,h⟩:=h a
  exact⟨N,Eq.trans (by kernel_rfl) (h N (Nat.le_refl N))⟩
def e142ok:z0a Tryz.prog 142 e142:=f142ok z1w.ok
end Go.Fw
namespace Go.Fw
variable {ρ : Type}
open Go.Proofs
def zsl:Sig:=⟨[⟨.sl 3 (.int .i64),false,false⟩,⟨.fnc 142,false,false⟩],[⟨.int .i64,false,false⟩]⟩
def e174:z29:=⟨zsl,none,λX=>((),((z09.g X.1 X.2.1),()))⟩
def f174G:Gm:=z3q z1r 142 e142
def f174GOk:GOk Tryz.prog f174G:=(GOk.nil).add e142ok (by kernel_rfl)
def f174lE:z00:=⟨[],[],[],[],[]⟩
def f174s0(a:LI)(b:Unit):St:=z1p zsl.ps (a,(b,()))
def f174s1(a:LI):St:=z14 [(0,.c (.sn 3 tI a none)),(1,.c (.fn 142 []))] [] []
def f174l1:z00:=⟨[0,1],[],[],[],[]⟩
def zno(a:LI)(b d:Int):St:=z14 [(0,.c (.sn 3 tI a none)),(1,.c (.fn 142 [])),(7,xi b),(8,xi d)] [] []
def f174l2:z00:=⟨[0,1,7,8],[],[],[],[]⟩
def zk1 :St:=z14 [] [] []
def zsm:z00:=⟨[],[],[],[],[]⟩
def zg1(a:Int):St:=z14 [(4,xi a)] [] []
def f174l4:z00:=⟨[4],[],[],[],[]⟩
def f174B:Nat->Option z00:=z1b [(0,zsm),(1000000,f174l4)]
abbrev f174j{ρ:Type}(N n:Nat)(σ:St)(l:z00)(K:KT ρ):Option ρ:=z0r f174G tab f174B N (z2q 99 (z1s Tryz.f174) n) .n σ (z16 (some l) K)
def f174t1 N a b (K:KT ρ):f174j N 2 (f174s0 a b) f174l1 K =
 z09.Z1 N a b (λa=>K .nrm (f174s1 a)):=by kernel_rfl
def f174t4 N a (K:KT ρ):f174j N 9 (f174s1 a) f174l2 K =
 z09.Z4 N a (λa b c=>K .nrm (zno a b c)):=by kernel_rfl
def f174t7 N a b c (K:KT ρ):f174j N 37 (zno a b c) f174l2 K =
 z09.Z7 N a b c (λa b c=>K .nrm (zno a b c)) (K (.exit 0) zk1) (λd=>K .ret (zg1 d)):=by kernel_rfl
def f174t6L N (K:KT ρ):=lp3 K (z09.Z6L N (K (.exit 0) zk1) (λa=>K .ret (zg1 a))) (λb c d k=>z09.Z7 N b c d k (K (.exit 0) zk1) (λa=>K .ret (zg1 a))) (λF b c d=>f174t7 N b c d _) (by kernel_rfl)
def f174t6 N a b c (K:KT ρ):=vL (zno a b c) (f174t6L N (jK zsm K) N a b c) (by kernel_rfl)
def f174t5 N a b c (K:KT ρ):=vB 0 zsm K (z09.Z5 N a b c (K .nrm zk1) (λd=>K .ret (zg1 d))) (f174t6 N a b c _) (by kernel_rfl)
def f174t3 N a (K:KT ρ):=vQ (λk=>z09.Z4 N a k) (f174t4 N a _) (fx3 λa b c=>f174t5 N a b c K)
def f174t8 N  (K:KT ρ):f174j N 7 zk1 f174lE K =
 z09.Z8 N (λa=>K .ret (zg1 a)):=by kernel_rfl
def f174t2 N a (K:KT ρ):=vQ (λk=>z09.Z3 N a k (λb=>K .ret (zg1 b))) (f174t3 N a _) (f174t8 N K)
def f174t0 N a b (K:KT ρ):=vQ (λk=>z09.Z1 N a b k) (f174t1 N a b _) (funext λa=>f174t2 N a K)
def f174ok(h:z09.Spec):z0a Tryz.prog 174 e174 :=
 okC Tryz.func174 z2t f174GOk (λN X K=>f174t0 N X.1 X.2.1 K) (by kernel_rfl) λX hb hp=>by
  obtain⟨a,b,_⟩:=X
  obtain⟨N,h⟩:=h a b hb.1
  exact⟨N,Eq.trans (by kernel_rfl) (h N (Nat.le_refl N))⟩
def e174ok:z0a Tryz.prog 174 e174:=f174ok z09.ok
end Go.Fw
namespace Go.Fw
variable {ρ : Type}
open Go.Proofs
def zsu:Sig:=⟨[⟨.sl 3 (.int .i64),false,false⟩,⟨.fnc 142,false,false⟩],[⟨.bool,false,false⟩]⟩
def e141:z29:=⟨zsu,none,λX=>((),((z0y.g X.1 X.2.1),()))⟩
def f141G:Gm:=z3q z1r 174 e174
def f141GOk:GOk Tryz.prog f141G:=(GOk.nil).add e174ok (by kernel_rfl)
def f141lE:z00:=⟨[],[],[],[],[]⟩
def f141s0(a:LI)(b:Unit):St:=z1p zsu.ps (a,(b,()))
def f141s1(a:Bool):St:=z14 [(4,xB a)] [] []
def f141l1:z00:=⟨[4],[],[],[],[]⟩
def f141B:Nat->Option z00:=z1b [(1000000,f141l1)]
abbrev f141j{ρ:Type}(N n:Nat)(σ:St)(l:z00)(K:KT ρ):Option ρ:=z0r f141G tab f141B N (z2q 99 (z1s Tryz.f141) n) .n σ (z16 (some l) K)
def f141t0 N a b (K:KT ρ):f141j N 1 (f141s0 a b) f141lE K =
 z0y.Z0 N a b (λc=>K .ret (f141s1 c)):=by kernel_rfl
def f141ok(h:z0y.Spec):z0a Tryz.prog 141 e141 :=
 okC Tryz.func141 z2t f141GOk (λN X K=>f141t0 N X.1 X.2.1 K) (by kernel_rfl) λX hb hp=>by
  obtain⟨a,b,_⟩:=X
  obtain⟨N,h⟩:=h a b hb.1
  exact⟨N,Eq.trans (by kernel_rfl) (h N (Nat.le_refl N))⟩
def e141ok:z0a Tryz.prog 141 e141:=f141ok z0y.ok
end Go.Fw
namespace Go.Fw
variable {ρ : Type}
open Go.Proofs
def ztk:Sig:=⟨[⟨.pair (.int .i64) (.pair (.int .i64) (.sl 3 (.int .i64))),true,false⟩],[⟨.bool,false,false⟩]⟩
def e102:z29:=⟨ztk,none,λX=>((),((z3t.g X.1),()))⟩
def f102G:Gm:=z3q (z3q z1r 91 e91) 141 e141
def f102GOk:GOk Tryz.prog f102G:=((GOk.nil).add e91ok (by kernel_rfl)).add e141ok (by kernel_rfl)
def f102lE:z00:=⟨[],[],[],[],[]⟩
def f102s0(a:MT):St:=z1p ztk.ps (a,())
def f102s1(a:Bool):St:=z14 [(2,xB a)] [] []
def f102l1:z00:=⟨[2],[],[],[],[]⟩
def f102B:Nat->Option z00:=z1b [(1000000,f102l1)]
abbrev f102j{ρ:Type}(N n:Nat)(σ:St)(l:z00)(K:KT ρ):Option ρ:=z0r f102G tab f102B N (z2q 99 (z1s Tryz.f102) n) .n σ (z16 (some l) K)
def f102t0 N a (K:KT ρ):f102j N 1 (f102s0 a) f102lE K =
 z3t.Z0 N a (λb=>K .ret (f102s1 b)):=by kernel_rfl
def f102ok(h:z3t.Spec):z0a Tryz.prog 102 e102 :=
 okC Tryz.func102 z2t f102GOk (λN X K=>f102t0 N X.1 K) (by kernel_rfl) λX hb hp=>by
  obtain⟨a,_⟩:=X
  obtain⟨N,h⟩:=h a hb.1
  exact⟨N,Eq.trans (by kernel_rfl) (h N (Nat.le_refl N))⟩
def e102ok:z0a Tryz.prog 102 e102:=f102ok z3t.ok
end Go.Fw
namespace Go.Fw
variable {ρ : Type}
open Go.Proofs
def f83sig:Sig:=⟨[⟨.pair (.int .i64) (.pair (.int .i64) (.sl 3 (.int .i64))),true,false⟩,⟨.int .i64,false,false⟩,⟨.int .i64,false,false⟩],[⟨.int .i64,false,false⟩]⟩
def e83:z29:=⟨f83sig,(some λX=>z12.P X.1 X.2.1 X.2.2.1),λX=>((),((z12.g X.1 X.2.1 X.2.2.1),()))⟩
def f83G:Gm:=z1r
def f83GOk:GOk Tryz.prog f83G:=GOk.nil
def f83lE:z00:=⟨[],[],[],[],[]⟩
def f83s0(a:MT)(b c:Int):St:=z1p f83sig.ps (a,(b,(c,())))
def f83s1(a:Int):St:=z14 [(6,xi a)] [] []
def f83l1:z00:=⟨[6],[],[],[],[]⟩
def f83B:Nat->Option z00:=z1b [(1000000,f83l1)]
abbrev f83j{ρ:Type}(N n:Nat)(σ:St)(l:z00)(K:KT ρ):Option ρ:=z0r f83G tab f83B N (z2q 99 (z1s Tryz.f83) n) .n σ (z16 (some l) K)
def f83t0 N a b c (K:KT ρ):f83j N 1 (f83s0 a b c) f83lE K =
 z12.Z0 N a b c (λd=>K .ret (f83s1 d)):=by kernel_rfl
def f83ok(h:z12.Spec):z0a Tryz.prog 83 e83 :=
 okC Tryz.func83 z2t f83GOk (λN X K=>f83t0 N X.1 X.2.1 X.2.2.1 K) (by kernel_rfl) λX hb hp=>by
  obtain⟨a,b,c,_⟩:=X
  obtain⟨N,h⟩:=h a b c hb.1 hp
  exact⟨N,Eq.trans (by kernel_rfl) (h N (Nat.le_refl N))⟩
def e83ok:z0a Tryz.prog 83 e83:=f83ok z12.ok
end Go.Fw
namespace Go.Fw
variable {ρ : Type}
open Go.Proofs
def zsr:Sig:=⟨[⟨.int .i64,false,false⟩,⟨.int .i64,false,false⟩],[⟨.int .i64,false,false⟩]⟩
def e143:z29:=⟨zsr,(some λX=>z2c.P X.1 X.2.1),λX=>((),((z2c.g X.1 X.2.1),()))⟩
def f143G:Gm:=z1r
def f143GOk:GOk Tryz.prog f143G:=GOk.nil
def f143lE:z00:=⟨[],[],[],[],[]⟩
def f143s0(a b:Int):St:=z1p zsr.ps (a,(b,()))
def znq(a b:Int):St:=z14 [(0,xi a),(1,xi b)] [] []
def f143l1:z00:=⟨[0,1],[],[],[],[]⟩
def zk6(a:Int):St:=z14 [(0,xi a)] [] []
def zss:z00:=⟨[0],[],[],[],[]⟩
def f143s3(a:Int):St:=z14 [(4,xi a)] [] []
def f143l3:z00:=⟨[4],[],[],[],[]⟩
def f143B:Nat->Option z00:=z1b [(0,zss),(1000000,f143l3)]
abbrev f143j{ρ:Type}(N n:Nat)(σ:St)(l:z00)(K:KT ρ):Option ρ:=z0r f143G tab f143B N (z2q 99 (z1s Tryz.f143) n) .n σ (z16 (some l) K)
def f143t1 N a b (K:KT ρ):f143j N 2 (f143s0 a b) f143l1 K =
 z2c.Z1 N a b (λa b=>K .nrm (znq a b)):=by kernel_rfl
def f143t5 N a b (K:KT ρ):f143j N 17 (znq a b) f143l1 K =
 z2c.Z5 N a b (λa b=>K .nrm (znq a b)) (λa=>K (.exit 0) (zk6 a)):=by kernel_rfl
def f143t4L N (K:KT ρ):=lp2 K (z2c.Z4L N (λa=>K (.exit 0) (zk6 a))) (λa b k=>z2c.Z5 N a b k (λa=>K (.exit 0) (zk6 a))) (λF a b=>f143t5 N a b _) (by kernel_rfl)
def f143t4 N a b (K:KT ρ):=vL (znq a b) (f143t4L N (jK zss K) N a b) (by kernel_rfl)
def f143t3 N a b (K:KT ρ):=vB 0 zss K (z2c.Z3 N a b (λa=>K .nrm (zk6 a))) (f143t4 N a b _) (by kernel_rfl)
def f143t6 N a (K:KT ρ):f143j N 7 (zk6 a) f143lE K =
 z2c.Z6 N a (λb=>K .ret (f143s3 b)):=by kernel_rfl
def f143t2 N a b (K:KT ρ):=vQ (λk=>z2c.Z3 N a b k) (f143t3 N a b _) (funext λa=>f143t6 N a K)
def f143t0 N a b (K:KT ρ):=vQ (λk=>z2c.Z1 N a b k) (f143t1 N a b _) (fx2 λa b=>f143t2 N a b K)
def f143ok(h:z2c.Spec):z0a Tryz.prog 143 e143 :=
 okC Tryz.func143 z2t f143GOk (λN X K=>f143t0 N X.1 X.2.1 K) (by kernel_rfl) λX hb hp=>by
  obtain⟨a,b,_⟩:=X
  obtain⟨N,h⟩:=h a b hp
  exact⟨N,Eq.trans (by kernel_rfl) (h N (Nat.le_refl N))⟩
def e143ok:z0a Tryz.prog 143 e143:=f143ok z2c.ok
end Go.Fw
namespace Go.Fw
variable {ρ : Type}
open Go.Proofs
def ztb:Sig:=⟨[⟨.pair (.int .i64) (.pair (.int .i64) (.sl 3 (.int .i64))),true,false⟩],[⟨.sl 3 (.int .i64),false,true⟩]⟩
def e103:z29:=⟨ztb,(some λX=>z01.P X.1),λX=>((),((z01.g X.1),()))⟩
def f103G:Gm:=z3q (z3q z1r 83 e83) 143 e143
def f103GOk:GOk Tryz.prog f103G:=((GOk.nil).add e83ok (by kernel_rfl)).add e143ok (by kernel_rfl)
def f103lE:z00:=⟨[],[],[],[],[]⟩
def f103s0(a:MT):St:=z1p ztb.ps (a,())
def f103s1(a b:Int)(c:LI):St:=z14 [(1,xb 1)] [(1,(27,[yi a,yi b,.sn 3 tI c none]))] []
def f103l1:z00:=⟨[1],[1],[],[],[]⟩
def f103s2(a b:LI)(c d:Int)(e:LI):St:=z14 [(1,xb 1),(3,xo 1000192),(4,xo 1000256)] [(1,(27,[yi c,yi d,.sn 3 tI e none]))] [(1000192,(⟨3,.int .i64,a,true,false⟩:Row)),(1000256,(⟨3,.int .i64,b,true,false⟩:Row))]
def f103l2:z00:=⟨[1,3,4],[1],[],[],[(⟨false,3,0⟩,1000192),(⟨false,4,0⟩,1000256)]⟩
def f103s3(a b c:LI)(d e:Int)(f:LI):St:=z14 [(1,xb 1),(3,xo 1000192),(4,xo 1000256),(5,xo 1000320)] [(1,(27,[yi d,yi e,.sn 3 tI f none]))] [(1000192,(⟨3,.int .i64,a,true,false⟩:Row)),(1000256,(⟨3,.int .i64,b,true,false⟩:Row)),(1000320,(⟨3,.int .i64,c,true,false⟩:Row))]
def f103l3:z00:=⟨[1,3,4,5],[1],[],[],[(⟨false,3,0⟩,1000192),(⟨false,4,0⟩,1000256),(⟨false,5,0⟩,1000320)]⟩
def z6j(a b c:LI)(d e f g:Int)(h:LI):St:=z14 [(1,xb 1),(3,xo 1000192),(4,xo 1000256),(5,xo 1000320),(34,xi d),(35,xi e)] [(1,(27,[yi f,yi g,.sn 3 tI h none]))] [(1000192,(⟨3,.int .i64,a,true,false⟩:Row)),(1000256,(⟨3,.int .i64,b,true,false⟩:Row)),(1000320,(⟨3,.int .i64,c,true,false⟩:Row))]
def zcq:z00:=⟨[1,3,4,5,34,35],[1],[],[],[(⟨false,3,0⟩,1000192),(⟨false,4,0⟩,1000256),(⟨false,5,0⟩,1000320)]⟩
def f103s5(a b c:LI)(d e:Int)(f:Bool)(g h:Int)(i:LI):St:=z14 [(1,xb 1),(3,xo 1000192),(4,xo 1000256),(5,xo 1000320),(34,xi d),(35,xi e),(36,xB f)] [(1,(27,[yi g,yi h,.sn 3 tI i none]))] [(1000192,(⟨3,.int .i64,a,true,false⟩:Row)),(1000256,(⟨3,.int .i64,b,true,false⟩:Row)),(1000320,(⟨3,.int .i64,c,true,false⟩:Row))]
def f103l5:z00:=⟨[1,3,4,5,34,35,36],[1],[],[],[(⟨false,3,0⟩,1000192),(⟨false,4,0⟩,1000256),(⟨false,5,0⟩,1000320)]⟩
def zg3(a b c:LI)(d e f g h:Int)(i:LI):St:=z14 [(1,xb 1),(3,xo 1000192),(4,xo 1000256),(5,xo 1000320),(6,xi d),(34,xi e),(35,xi f)] [(1,(27,[yi g,yi h,.sn 3 tI i none]))] [(1000192,(⟨3,.int .i64,a,true,false⟩:Row)),(1000256,(⟨3,.int .i64,b,true,false⟩:Row)),(1000320,(⟨3,.int .i64,c,true,false⟩:Row))]
def ztf:z00:=⟨[1,3,4,5,6,34,35],[1],[],[],[(⟨false,3,0⟩,1000192),(⟨false,4,0⟩,1000256),(⟨false,5,0⟩,1000320)]⟩
def zco(a b c d:LI)(e f g h:Int)(i:LI):St:=z14 [(1,xb 1),(3,xo 1000192),(4,xo 1000256),(5,xo 1000320),(7,xo 1000448),(34,xi e),(35,xi f)] [(1,(27,[yi g,yi h,.sn 3 tI i none]))] [(1000192,(⟨3,.int .i64,a,true,false⟩:Row)),(1000256,(⟨3,.int .i64,b,true,false⟩:Row)),(1000320,(⟨3,.int .i64,c,true,false⟩:Row)),(1000448,(⟨3,.int .i64,d,true,false⟩:Row))]
def zny:z00:=⟨[1,3,4,5,7,34,35],[1],[],[],[(⟨false,3,0⟩,1000192),(⟨false,4,0⟩,1000256),(⟨false,5,0⟩,1000320),(⟨false,7,0⟩,1000448)]⟩
def z73(a b c d:LI)(e f g h i:Int)(j:LI):St:=z14 [(1,xb 1),(3,xo 1000192),(4,xo 1000256),(5,xo 1000320),(7,xo 1000448),(8,xi e),(34,xi f),(35,xi g)] [(1,(27,[yi h,yi i,.sn 3 tI j none]))] [(1000192,(⟨3,.int .i64,a,true,false⟩:Row)),(1000256,(⟨3,.int .i64,b,true,false⟩:Row)),(1000320,(⟨3,.int .i64,c,true,false⟩:Row)),(1000448,(⟨3,.int .i64,d,true,false⟩:Row))]
def zcp:z00:=⟨[1,3,4,5,7,8,34,35],[1],[],[],[(⟨false,3,0⟩,1000192),(⟨false,4,0⟩,1000256),(⟨false,5,0⟩,1000320),(⟨false,7,0⟩,1000448)]⟩
def f103s9(a b c d:LI)(e f g h i j:Int)(l:LI):St:=z14 [(1,xb 1),(3,xo 1000192),(4,xo 1000256),(5,xo 1000320),(7,xo 1000448),(8,xi e),(9,xi f),(34,xi g),(35,xi h)] [(1,(27,[yi i,yi j,.sn 3 tI l none]))] [(1000192,(⟨3,.int .i64,a,true,false⟩:Row)),(1000256,(⟨3,.int .i64,b,true,false⟩:Row)),(1000320,(⟨3,.int .i64,c,true,false⟩:Row)),(1000448,(⟨3,.int .i64,d,true,false⟩:Row))]
def f103l9:z00:=⟨[1,3,4,5,7,8,9,34,35],[1],[],[],[(⟨false,3,0⟩,1000192),(⟨false,4,0⟩,1000256),(⟨false,5,0⟩,1000320),(⟨false,7,0⟩,1000448)]⟩
def z6a(a b c d:LI)(e f g h i j l m:Int)(o:LI):St:=z14 [(1,xb 1),(3,xo 1000192),(4,xo 1000256),(5,xo 1000320),(7,xo 1000448),(8,xi e),(9,xi f),(34,xi g),(35,xi h),(62,xi i),(63,xi j)] [(1,(27,[yi l,yi m,.sn 3 tI o none]))] [(1000192,(⟨3,.int .i64,a,true,false⟩:Row)),(1000256,(⟨3,.int .i64,b,true,false⟩:Row)),(1000320,(⟨3,.int .i64,c,true,false⟩:Row)),(1000448,(⟨3,.int .i64,d,true,false⟩:Row))]
def zby:z00:=⟨[1,3,4,5,7,8,9,34,35,62,63],[1],[],[],[(⟨false,3,0⟩,1000192),(⟨false,4,0⟩,1000256),(⟨false,5,0⟩,1000320),(⟨false,7,0⟩,1000448)]⟩
def zte(a b c d:LI)(e f g h i j:Int)(l:Bool)(m o:Int)(p:LI):St:=z14 [(1,xb 1),(3,xo 1000192),(4,xo 1000256),(5,xo 1000320),(7,xo 1000448),(8,xi e),(9,xi f),(34,xi g),(35,xi h),(62,xi i),(63,xi j),(64,xB l)] [(1,(27,[yi m,yi o,.sn 3 tI p none]))] [(1000192,(⟨3,.int .i64,a,true,false⟩:Row)),(1000256,(⟨3,.int .i64,b,true,false⟩:Row)),(1000320,(⟨3,.int .i64,c,true,false⟩:Row)),(1000448,(⟨3,.int .i64,d,true,false⟩:Row))]
def f103l11:z00:=⟨[1,3,4,5,7,8,9,34,35,62,63,64],[1],[],[],[(⟨false,3,0⟩,1000192),(⟨false,4,0⟩,1000256),(⟨false,5,0⟩,1000320),(⟨false,7,0⟩,1000448)]⟩
def ztd(a b c d:LI)(e f g h i j l m o:Int)(p:LI):St:=z14 [(1,xb 1),(3,xo 1000192),(4,xo 1000256),(5,xo 1000320),(7,xo 1000448),(8,xi e),(9,xi f),(10,xi g),(34,xi h),(35,xi i),(62,xi j),(63,xi l)] [(1,(27,[yi m,yi o,.sn 3 tI p none]))] [(1000192,(⟨3,.int .i64,a,true,false⟩:Row)),(1000256,(⟨3,.int .i64,b,true,false⟩:Row)),(1000320,(⟨3,.int .i64,c,true,false⟩:Row)),(1000448,(⟨3,.int .i64,d,true,false⟩:Row))]
def f103l12:z00:=⟨[1,3,4,5,7,8,9,10,34,35,62,63],[1],[],[],[(⟨false,3,0⟩,1000192),(⟨false,4,0⟩,1000256),(⟨false,5,0⟩,1000320),(⟨false,7,0⟩,1000448)]⟩
def zhm(a b c d:LI)(e f g h i j l m o p q:Int)(r:LI):St:=z14 [(1,xb 1),(3,xo 1000192),(4,xo 1000256),(5,xo 1000320),(7,xo 1000448),(8,xi e),(9,xi f),(10,xi g),(11,xi h),(12,xi i),(34,xi j),(35,xi l),(62,xi m),(63,xi o)] [(1,(27,[yi p,yi q,.sn 3 tI r none]))] [(1000192,(⟨3,.int .i64,a,true,false⟩:Row)),(1000256,(⟨3,.int .i64,b,true,false⟩:Row)),(1000320,(⟨3,.int .i64,c,true,false⟩:Row)),(1000448,(⟨3,.int .i64,d,true,false⟩:Row))]
def ztj:z00:=⟨[1,3,4,5,7,8,9,10,11,12,34,35,62,63],[1],[],[],[(⟨false,3,0⟩,1000192),(⟨false,4,0⟩,1000256),(⟨false,5,0⟩,1000320),(⟨false,7,0⟩,1000448)]⟩
def za5(a b c d:LI)(e f g h i:Int)(j:LI):St:=z14 [(1,xb 1),(3,xo 1000192),(4,xo 1000256),(5,xo 1000320),(7,xo 1000448),(16,xi e),(34,xi f),(35,xi g)] [(1,(27,[yi h,yi i,.sn 3 tI j none]))] [(1000192,(⟨3,.int .i64,a,true,false⟩:Row)),(1000256,(⟨3,.int .i64,b,true,false⟩:Row)),(1000320,(⟨3,.int .i64,c,true,false⟩:Row)),(1000448,(⟨3,.int .i64,d,true,false⟩:Row))]
def zhn:z00:=⟨[1,3,4,5,7,16,34,35],[1],[],[],[(⟨false,3,0⟩,1000192),(⟨false,4,0⟩,1000256),(⟨false,5,0⟩,1000320),(⟨false,7,0⟩,1000448)]⟩
def zhl(a b c d:LI)(e f g h i j l:Int)(m:LI):St:=z14 [(1,xb 1),(3,xo 1000192),(4,xo 1000256),(5,xo 1000320),(7,xo 1000448),(16,xi e),(34,xi f),(35,xi g),(158,xo 1000448),(159,xi h),(160,xi i)] [(1,(27,[yi j,yi l,.sn 3 tI m none]))] [(1000192,(⟨3,.int .i64,a,true,false⟩:Row)),(1000256,(⟨3,.int .i64,b,true,false⟩:Row)),(1000320,(⟨3,.int .i64,c,true,false⟩:Row)),(1000448,(⟨3,.int .i64,d,true,false⟩:Row))]
def zti:z00:=⟨[1,3,4,5,7,16,34,35,158,159,160],[1],[],[],[(⟨false,3,0⟩,1000192),(⟨false,4,0⟩,1000256),(⟨false,5,0⟩,1000320),(⟨false,7,0⟩,1000448)]⟩
def ztc(a b c d:LI)(e f g h i j:Int)(l:LI):St:=z14 [(1,xb 1),(3,xo 1000192),(4,xo 1000256),(5,xo 1000320),(7,xo 1000448),(16,xi e),(19,xi f),(34,xi g),(35,xi h)] [(1,(27,[yi i,yi j,.sn 3 tI l none]))] [(1000192,(⟨3,.int .i64,a,true,false⟩:Row)),(1000256,(⟨3,.int .i64,b,true,false⟩:Row)),(1000320,(⟨3,.int .i64,c,true,false⟩:Row)),(1000448,(⟨3,.int .i64,d,true,false⟩:Row))]
def f103l16:z00:=⟨[1,3,4,5,7,16,19,34,35],[1],[],[],[(⟨false,3,0⟩,1000192),(⟨false,4,0⟩,1000256),(⟨false,5,0⟩,1000320),(⟨false,7,0⟩,1000448)]⟩
def zhk(a b c d:LI)(e f g h i j l m:Int)(o:LI):St:=z14 [(1,xb 1),(3,xo 1000192),(4,xo 1000256),(5,xo 1000320),(7,xo 1000448),(16,xi e),(19,xi f),(34,xi g),(35,xi h),(178,xo 1000448),(179,xi i),(180,xi j)] [(1,(27,[yi l,yi m,.sn 3 tI o none]))] [(1000192,(⟨3,.int .i64,a,true,false⟩:Row)),(1000256,(⟨3,.int .i64,b,true,false⟩:Row)),(1000320,(⟨3,.int .i64,c,true,false⟩:Row)),(1000448,(⟨3,.int .i64,d,true,false⟩:Row))]
def zth:z00:=⟨[1,3,4,5,7,16,19,34,35,178,179,180],[1],[],[],[(⟨false,3,0⟩,1000192),(⟨false,4,0⟩,1000256),(⟨false,5,0⟩,1000320),(⟨false,7,0⟩,1000448)]⟩
def zed(a b c d:LI)(e f g h i:Int)(j:LI):St:=z14 [(1,xb 1),(3,xo 1000192),(4,xo 1000256),(5,xo 1000320),(7,xo 1000448),(19,xi e),(34,xi f),(35,xi g)] [(1,(27,[yi h,yi i,.sn 3 tI j none]))] [(1000192,(⟨3,.int .i64,a,true,false⟩:Row)),(1000256,(⟨3,.int .i64,b,true,false⟩:Row)),(1000320,(⟨3,.int .i64,c,true,false⟩:Row)),(1000448,(⟨3,.int .i64,d,true,false⟩:Row))]
def zlu:z00:=⟨[1,3,4,5,7,19,34,35],[1],[],[],[(⟨false,3,0⟩,1000192),(⟨false,4,0⟩,1000256),(⟨false,5,0⟩,1000320),(⟨false,7,0⟩,1000448)]⟩
def zhj(a b c d:LI)(e f g h i j l:Int)(m:LI):St:=z14 [(1,xb 1),(3,xo 1000192),(4,xo 1000256),(5,xo 1000320),(19,xi e),(34,xi f),(35,xi g),(205,xo 1013120),(206,xi h),(207,xi i)] [(1,(27,[yi j,yi l,.sn 3 tI m none]))] [(1000192,(⟨3,.int .i64,a,true,false⟩:Row)),(1000256,(⟨3,.int .i64,b,true,false⟩:Row)),(1000320,(⟨3,.int .i64,c,true,false⟩:Row)),(1013120,(⟨3,.int .i64,d,true,false⟩:Row))]
def ztg:z00:=⟨[1,3,4,5,19,34,35,205,206,207],[1],[],[],[(⟨false,3,0⟩,1000192),(⟨false,4,0⟩,1000256),(⟨false,5,0⟩,1000320),(⟨false,205,0⟩,1013120)]⟩
def zbx(a:LI):St:=z14 [(5,xo 1000320)] [] [(1000320,(⟨3,.int .i64,a,true,false⟩:Row))]
def zlt:z00:=⟨[5],[],[],[],[(⟨false,5,0⟩,1000320)]⟩
def z3v(a:LI):St:=z14 [(2,xo 1001000128)] [] [(1001000128,(⟨3,.int .i64,a,true,true⟩:Row))]
def f103l21:z00:=⟨[2],[],[⟨⟨false,2,0⟩,30000000,3,.int .i64,true⟩],[],[(⟨false,2,0⟩,1001000128)]⟩
def f103B:Nat->Option z00:=z1b [(5,zby),(4,zcp),(3,zcp),(2,zny),(6,zhn),(8,zlu),(10,zcq),(1,zcq),(0,zlt),(1000000,f103l21)]
abbrev z4h{ρ:Type}(N n:Nat)(σ:St)(l:z00)(K:KT ρ):Option ρ:=z0r f103G tab f103B N (z2q 99 (z1s Tryz.f103) n) .n σ (z16 (some l) K)
def f103t1 N a (K:KT ρ):z4h N 2 (f103s0 a) f103l1 K =
 z01.Z1 N a (λb c d=>K .nrm (f103s1 b c d)):=by kernel_rfl
def f103t3 N a b c (K:KT ρ):z4h N 5 (f103s1 a b c) f103l2 K =
 z01.Z3 N a b c (λd e a b c=>K .nrm (f103s2 d e a b c)):=by kernel_rfl
def f103t5 N a b c d e (K:KT ρ):z4h N 11 (f103s2 a b c d e) f103l3 K =
 z01.Z5 N a b c d e (λa b f c d e=>K .nrm (f103s3 a b f c d e)):=by kernel_rfl
def f103t8 N a b c d e f (K:KT ρ):z4h N 39 (f103s3 a b c d e f) zcq K =
 z01.Z8 N a b c d e f (λa b c g h d e f=>K .nrm (z6j a b c g h d e f)):=by kernel_rfl
def f103t12 N a b c d e f g h (K:KT ρ):z4h N 279 (z6j a b c d e f g h) f103l5 K =
 z01.Z12 N a b c d e f g h (λa b c d e i f g h=>K .nrm (f103s5 a b c d e i f g h)):=by kernel_rfl
def f103t14 N b c a d e i f g h (K:KT ρ):z4h N 663 (f103s5 b c a d e i f g h) zcq K =
 z01.Z14 N b c a d e i f g h (λb c a d e f g h=>K .nrm (z6j b c a d e f g h)) (λa=>K (.exit 0) (zbx a)):=by kernel_rfl
def f103t18 N a b c d e f g h (K:KT ρ):z4h N 4503 (z6j a b c d e f g h) ztf K =
 z01.Z18 N a b c d e f g h (λa b c i d e f g h=>K .nrm (zg3 a b c i d e f g h)):=by kernel_rfl
def f103t20 N a b c i d e f g h (K:KT ρ):z4h N 10647 (zg3 a b c i d e f g h) ztf K =
 z01.Z20 N a b c i d e f g h (λa b c i d e f g h=>K .nrm (zg3 a b c i d e f g h)) (λa b c d e f g h=>K (.exit 1) (z6j a b c d e f g h)):=by kernel_rfl
def f103t22 N a b c d e f g h i (K:KT ρ):z4h N 22935 (zg3 a b c d e f g h i) ztf K =
 z01.Z22 N a b c d e f g h i (λa b c d e f g h i=>K .nrm (zg3 a b c d e f g h i)):=by kernel_rfl
def f103t24 N a b c i d e f g h (K:KT ρ):z4h N 47511 (zg3 a b c i d e f g h) zny K =
 z01.Z24 N a b c i d e f g h (λa b c j d e f g h=>K .nrm (zco a b c j d e f g h)):=by kernel_rfl
def f103t27 N a b c d e f g h i (K:KT ρ):z4h N 162199 (zco a b c d e f g h i) zcp K =
 z01.Z27 N a b c d e f g h i (λa b c d j e f g h i=>K .nrm (z73 a b c d j e f g h i)):=by kernel_rfl
def f103t31 N a b c d j e f g h i (K:KT ρ):z4h N 1145239 (z73 a b c d j e f g h i) zcp K =
 z01.Z31 N a b c d j e f g h i (λa b c d j e f g h i=>K .nrm (z73 a b c d j e f g h i)) (λa b c d e f g h i=>K (.exit 2) (zco a b c d e f g h i)):=by kernel_rfl
def f103t35 N a b c d e f g h i j (K:KT ρ):z4h N 9009559 (z73 a b c d e f g h i j) f103l9 K =
 z01.Z35 N a b c d e f g h i j (λa b c d e l f g h i j=>K .nrm (f103s9 a b c d e l f g h i j)):=by kernel_rfl
def f103t37 N a b c d e f g h i j l (K:KT ρ):z4h N 21592471 (f103s9 a b c d e f g h i j l) zby K =
 z01.Z37 N a b c d e f g h i j l (λa b c d e f g h m o i j l=>K .nrm (z6a a b c d e f g h m o i j l)):=by kernel_rfl
def f103t41 N a b c d e f g h i j l m o (K:KT ρ):z4h N 147421591 (z6a a b c d e f g h i j l m o) f103l11 K =
 z01.Z41 N a b c d e f g h i j l m o (λa b c d e f g h i j p l m o=>K .nrm (zte a b c d e f g h i j p l m o)):=by kernel_rfl
def f103t43 N a b c d e l f g m o p h i j (K:KT ρ):z4h N 348748183 (zte a b c d e l f g m o p h i j) zby K =
 z01.Z43 N a b c d e l f g m o p h i j (λa b c d e l f g m o h i j=>K .nrm (z6a a b c d e l f g m o h i j)) (λa b c d e f g h i j=>K (.exit 4) (z73 a b c d e f g h i j)):=by kernel_rfl
def f103t47 N a b c d e f g h i j l m o (K:KT ρ):z4h N 2362014103 (z6a a b c d e f g h i j l m o) f103l12 K =
 z01.Z47 N a b c d e f g h i j l m o (λa b c d e f p g h i j l m o=>K .nrm (ztd a b c d e f p g h i j l m o)):=by kernel_rfl
def f103t49 N a b c d e f g h i j l m o p (K:KT ρ):z4h N 5583239575 (ztd a b c d e f g h i j l m o p) ztj K =
 z01.Z49 N a b c d e f g h i j l m o p (λa b c d e f g q r h i j l m o p=>K .nrm (zhm a b c d e f g q r h i j l m o p)):=by kernel_rfl
def f103t51 N a b c d e f p q r g h i j l m o (K:KT ρ):z4h N 12025690519 (zhm a b c d e f p q r g h i j l m o) ztj K =
 z01.Z51 N a b c d e f p q r g h i j l m o (λa b c d e f p q r g h i j l m o=>K .nrm (zhm a b c d e f p q r g h i j l m o)) (λa b c d e f g h i j l m o=>K (.exit 5) (z6a a b c d e f g h i j l m o)):=by kernel_rfl
def f103t52 N a b c d e f p q r g h i j l m o (K:KT ρ):z4h N 16320657815 (zhm a b c d e f p q r g h i j l m o) zby K =
 z01.Z52 N a b c d e f p q r g h i j l m o (λa b c d e f g h i j l m o=>K .nrm (z6a a b c d e f g h i j l m o)) (λs=>K .ret (z3v s)):=by kernel_rfl
def f103t50 N a b c d e f p q r g h i j l m o (K:KT ρ):=vQ (λk=>z01.Z51 N a b c d e f p q r g h i j l m o k (λa b c d e f g h i j l m o=>K (.exit 5) (z6a a b c d e f g h i j l m o))) (f103t51 N a b c d e f p q r g h i j l m o _) (fx16 λa b c d e f p q r g h i j l m o=>f103t52 N a b c d e f p q r g h i j l m o K)
def f103t48 N a b c d e f g h i j l m o p (K:KT ρ):=vQ (λk=>z01.Z49 N a b c d e f g h i j l m o p k) (f103t49 N a b c d e f g h i j l m o p _) (fx16 λa b c d e f g q r h i j l m o p=>f103t50 N a b c d e f g q r h i j l m o p K)
def f103t46 N a b c d e f g h i j l m o (K:KT ρ):=vQ (λk=>z01.Z47 N a b c d e f g h i j l m o k) (f103t47 N a b c d e f g h i j l m o _) (fx14 λa b c d e f p g h i j l m o=>f103t48 N a b c d e f p g h i j l m o K)
def f103t45 N a b c d e f g h i j l m o (K:KT ρ):=vB 5 zby K (z01.Z45 N a b c d e f g h i j l m o (λa b c d e f g h i j l m o=>K .nrm (z6a a b c d e f g h i j l m o)) (λp=>K .ret (z3v p))) (f103t46 N a b c d e f g h i j l m o _) (by kernel_rfl)
def f103t53 N a b c d e f g h i j l m o (K:KT ρ):z4h N 1019836823 (z6a a b c d e f g h i j l m o) zby K =
 z01.Z53 N a b c d e f g h i j l m o (λa b c d e f g h i j l m o=>K .nrm (z6a a b c d e f g h i j l m o)):=by kernel_rfl
def f103t44 N a b c d e f g h i j l m o (K:KT ρ):=vQ (λk=>z01.Z45 N a b c d e f g h i j l m o k (λp=>K .ret (z3v p))) (f103t45 N a b c d e f g h i j l m o _) (fx13 λa b c d e f g h i j l m o=>f103t53 N a b c d e f g h i j l m o K)
def f103t42 N a b c d e l f g m o p h i j (K:KT ρ):=vQ (λk=>z01.Z43 N a b c d e l f g m o p h i j k (λa b c d e f g h i j=>K (.exit 4) (z73 a b c d e f g h i j))) (f103t43 N a b c d e l f g m o p h i j _) (fx13 λa b c d e l f g m o h i j=>f103t44 N a b c d e l f g m o h i j K)
def f103t40 N a b c d e f g h i j l m o (K:KT ρ):=vQ (λk=>z01.Z41 N a b c d e f g h i j l m o k) (f103t41 N a b c d e f g h i j l m o _) (fx14 λa b c d e f g h i j p l m o=>f103t42 N a b c d e f g h i j p l m o K)
def f103t39L N (K:KT ρ):=lp13 K (z01.Z39L N (λa b c d e f g h i j=>K (.exit 4) (z73 a b c d e f g h i j)) (λl=>K .ret (z3v l))) (λa b c d e m f g o p h i j k=>z01.Z40 N a b c d e m f g o p h i j k (λa b c d e f g h i j=>K (.exit 4) (z73 a b c d e f g h i j)) (λl=>K .ret (z3v l))) (λF a b c d e m f g o p h i j=>f103t40 N a b c d e m f g o p h i j _) (by kernel_rfl)
def f103t39 N a b c d e f g h i j l m o (K:KT ρ):=vL (z6a a b c d e f g h i j l m o) (f103t39L N (jK zcp K) N a b c d e f g h i j l m o) (by kernel_rfl)
def f103t38 N a b c d e l f g m o h i j (K:KT ρ):=vB 4 zcp K (z01.Z38 N a b c d e l f g m o h i j (λa b c d e f g h i j=>K .nrm (z73 a b c d e f g h i j)) (λp=>K .ret (z3v p))) (f103t39 N a b c d e l f g m o h i j _) (by kernel_rfl)
def f103t36 N a b c d e f g h i j l (K:KT ρ):=vQ (λk=>z01.Z37 N a b c d e f g h i j l k) (f103t37 N a b c d e f g h i j l _) (fx13 λa b c d e f g h m o i j l=>f103t38 N a b c d e f g h m o i j l K)
def f103t34 N a b c d e f g h i j (K:KT ρ):=vQ (λk=>z01.Z35 N a b c d e f g h i j k) (f103t35 N a b c d e f g h i j _) (zky λa b c d e l f g h i j=>f103t36 N a b c d e l f g h i j K)
def f103t33 N a b c d e f g h i j (K:KT ρ):=vB 3 zcp K (z01.Z33 N a b c d e f g h i j (λa b c d e f g h i j=>K .nrm (z73 a b c d e f g h i j)) (λl=>K .ret (z3v l))) (f103t34 N a b c d e f g h i j _) (by kernel_rfl)
def f103t54 N a b c d e f g h i j (K:KT ρ):z4h N 3766679 (z73 a b c d e f g h i j) zcp K =
 z01.Z54 N a b c d e f g h i j (λa b c d e f g h i j=>K .nrm (z73 a b c d e f g h i j)):=by kernel_rfl
def f103t32 N a b c d e f g h i j (K:KT ρ):=vQ (λk=>z01.Z33 N a b c d e f g h i j k (λl=>K .ret (z3v l))) (f103t33 N a b c d e f g h i j _) (zdc λa b c d e f g h i j=>f103t54 N a b c d e f g h i j K)
def f103t30 N a b c d j e f g h i (K:KT ρ):=vQ (λk=>z01.Z31 N a b c d j e f g h i k (λa b c d e f g h i=>K (.exit 2) (zco a b c d e f g h i))) (f103t31 N a b c d j e f g h i _) (zdc λa b c d j e f g h i=>f103t32 N a b c d j e f g h i K)
def f103t29L N (K:KT ρ):=lp10 K (z01.Z29L N (λa b c d e f g h i=>K (.exit 2) (zco a b c d e f g h i)) (λj=>K .ret (z3v j))) (λa b c d l e f g h i k=>z01.Z30 N a b c d l e f g h i k (λa b c d e f g h i=>K (.exit 2) (zco a b c d e f g h i)) (λj=>K .ret (z3v j))) (λF a b c d l e f g h i=>f103t30 N a b c d l e f g h i _) (by kernel_rfl)
def f103t29 N a b c d e f g h i j (K:KT ρ):=vL (z73 a b c d e f g h i j) (f103t29L N (jK zny K) N a b c d e f g h i j) (by kernel_rfl)
def f103t28 N a b c d j e f g h i (K:KT ρ):=vB 2 zny K (z01.Z28 N a b c d j e f g h i (λa b c d e f g h i=>K .nrm (zco a b c d e f g h i)) (λl=>K .ret (z3v l))) (f103t29 N a b c d j e f g h i _) (by kernel_rfl)
def f103t26 N a b c d e f g h i (K:KT ρ):=vQ (λk=>z01.Z27 N a b c d e f g h i k) (f103t27 N a b c d e f g h i _) (zdc λa b c d j e f g h i=>f103t28 N a b c d j e f g h i K)
def f103t56 N a b c d e f g h i (K:KT ρ):z4h N 194967 (zco a b c d e f g h i) zhn K =
 z01.Z56 N a b c d e f g h i (λa b c d j e f g h i=>K .nrm (za5 a b c d j e f g h i)):=by kernel_rfl
def f103t59 N a b c d e f g h i j (K:KT ρ):z4h N 653719 (za5 a b c d e f g h i j) zti K =
 z01.Z59 N a b c d e f g h i j (λa b c d e f g l m h i j=>K .nrm (zhl a b c d e f g l m h i j)):=by kernel_rfl
def f103t62 N a b c d e f g l m h i j (K:KT ρ):z4h N 2488727 (zhl a b c d e f g l m h i j) zti K =
 z01.Z62 N a b c d e f g l m h i j (λa b c d e f g l m h i j=>K .nrm (zhl a b c d e f g l m h i j)) (λa b c d e f g h i j=>K (.exit 6) (za5 a b c d e f g h i j)):=by kernel_rfl
def f103t61L N (K:KT ρ):=lp12 K (z01.Z61L N (λa b c d e f g h i j=>K (.exit 6) (za5 a b c d e f g h i j))) (λa b c d e f g l m h i j k=>z01.Z62 N a b c d e f g l m h i j k (λa b c d e f g h i j=>K (.exit 6) (za5 a b c d e f g h i j))) (λF a b c d e f g l m h i j=>f103t62 N a b c d e f g l m h i j _) (by kernel_rfl)
def f103t61 N a b c d e f g h i j l m (K:KT ρ):=vL (zhl a b c d e f g h i j l m) (f103t61L N (jK zhn K) N a b c d e f g h i j l m) (by kernel_rfl)
def f103t60 N a b c d e f g l m h i j (K:KT ρ):=vB 6 zhn K (z01.Z60 N a b c d e f g l m h i j (λa b c d e f g h i j=>K .nrm (za5 a b c d e f g h i j))) (f103t61 N a b c d e f g l m h i j _) (by kernel_rfl)
def f103t58 N a b c d e f g h i j (K:KT ρ):=vQ (λk=>z01.Z59 N a b c d e f g h i j k) (f103t59 N a b c d e f g h i j _) (fx12 λa b c d e f g l m h i j=>f103t60 N a b c d e f g l m h i j K)
def f103t64 N a b c d e f g h i j (K:KT ρ):z4h N 784791 (za5 a b c d e f g h i j) f103l16 K =
 z01.Z64 N a b c d e f g h i j (λa b c d e l f g h i j=>K .nrm (ztc a b c d e l f g h i j)):=by kernel_rfl
def f103t67 N a b c d e f g h i j l (K:KT ρ):z4h N 2619799 (ztc a b c d e f g h i j l) zth K =
 z01.Z67 N a b c d e f g h i j l (λa b c d e f g h m o i j l=>K .nrm (zhk a b c d e f g h m o i j l)):=by kernel_rfl
def f103t70 N a b c d l e f g m o h i j (K:KT ρ):z4h N 9959831 (zhk a b c d l e f g m o h i j) zth K =
 z01.Z70 N a b c d l e f g m o h i j (λa b c d l e f g m o h i j=>K .nrm (zhk a b c d l e f g m o h i j)) (λa b c d e f g h i j=>K (.exit 8) (zed a b c d e f g h i j)):=by kernel_rfl
def f103t69L N (K:KT ρ):=lp13 K (z01.Z69L N (λa b c d e f g h i j=>K (.exit 8) (zed a b c d e f g h i j))) (λa b c d l e f g m o h i j k=>z01.Z70 N a b c d l e f g m o h i j k (λa b c d e f g h i j=>K (.exit 8) (zed a b c d e f g h i j))) (λF a b c d l e f g m o h i j=>f103t70 N a b c d l e f g m o h i j _) (by kernel_rfl)
def f103t69 N a b c d e f g h i j l m o (K:KT ρ):=vL (zhk a b c d e f g h i j l m o) (f103t69L N (jK zlu K) N a b c d e f g h i j l m o) (by kernel_rfl)
def f103t68 N a b c d l e f g m o h i j (K:KT ρ):=vB 8 zlu K (z01.Z68 N a b c d l e f g m o h i j (λa b c d e f g h i j=>K .nrm (zed a b c d e f g h i j))) (f103t69 N a b c d l e f g m o h i j _) (by kernel_rfl)
def f103t66 N a b c d e f g h i j l (K:KT ρ):=vQ (λk=>z01.Z67 N a b c d e f g h i j l k) (f103t67 N a b c d e f g h i j l _) (fx13 λa b c d e f g h m o i j l=>f103t68 N a b c d e f g h m o i j l K)
def f103t72 N a b c j d e f g h i (K:KT ρ):z4h N 3144087 (zed a b c j d e f g h i) ztg K =
 z01.Z72 N a b c j d e f g h i (λa b c l d e f m o g h i=>K .nrm (zhj a b c l d e f m o g h i)):=by kernel_rfl
def f103t75 N a b c i j d e l m f g h (K:KT ρ):z4h N 10484119 (zhj a b c i j d e l m f g h) ztg K =
 z01.Z75 N a b c i j d e l m f g h (λa b c i j d e l m f g h=>K .nrm (zhj a b c i j d e l m f g h)) (λa b c d e f g h=>K (.exit 10) (z6j a b c d e f g h)):=by kernel_rfl
def f103t74L N (K:KT ρ):=lp12 K (z01.Z74L N (λa b c d e f g h=>K (.exit 10) (z6j a b c d e f g h))) (λa b c i j d e l m f g h k=>z01.Z75 N a b c i j d e l m f g h k (λa b c d e f g h=>K (.exit 10) (z6j a b c d e f g h))) (λF a b c i j d e l m f g h=>f103t75 N a b c i j d e l m f g h _) (by kernel_rfl)
def f103t74 N a b c d e f g h i j l m (K:KT ρ):=vL (zhj a b c d e f g h i j l m) (f103t74L N (jK zcq K) N a b c d e f g h i j l m) (by kernel_rfl)
def f103t73 N a b c i j d e l m f g h (K:KT ρ):=vB 10 zcq K (z01.Z73 N a b c i j d e l m f g h (λa b c d e f g h=>K .nrm (z6j a b c d e f g h))) (f103t74 N a b c i j d e l m f g h _) (by kernel_rfl)
def f103t71 N a b c j d e f g h i (K:KT ρ):=vQ (λk=>z01.Z72 N a b c j d e f g h i k) (f103t72 N a b c j d e f g h i _) (fx12 λa b c l d e f m o g h i=>f103t73 N a b c l d e f m o g h i K)
def f103t65 N a b c d l e f g h i j (K:KT ρ):=vQ (λk=>z01.Z66 N a b c d l e f g h i j k) (f103t66 N a b c d l e f g h i j _) (zdc λa b c d e f g h i j=>f103t71 N a b c d e f g h i j K)
def f103t63 N a b c d e f g h i j (K:KT ρ):=vQ (λk=>z01.Z64 N a b c d e f g h i j k) (f103t64 N a b c d e f g h i j _) (zky λa b c d e l f g h i j=>f103t65 N a b c d e l f g h i j K)
def f103t57 N a b c d e f g h i j (K:KT ρ):=vQ (λk=>z01.Z58 N a b c d e f g h i j k) (f103t58 N a b c d e f g h i j _) (zdc λa b c d e f g h i j=>f103t63 N a b c d e f g h i j K)
def f103t55 N a b c d e f g h i (K:KT ρ):=vQ (λk=>z01.Z56 N a b c d e f g h i k) (f103t56 N a b c d e f g h i _) (zdc λa b c d j e f g h i=>f103t57 N a b c d j e f g h i K)
def f103t25 N a b c d e f g h i (K:KT ρ):=vQ (λk=>z01.Z26 N a b c d e f g h i k (λj=>K .ret (z3v j))) (f103t26 N a b c d e f g h i _) (fx9 λa b c d e f g h i=>f103t55 N a b c d e f g h i K)
def f103t23 N a b c i d e f g h (K:KT ρ):=vQ (λk=>z01.Z24 N a b c i d e f g h k) (f103t24 N a b c i d e f g h _) (fx9 λa b c j d e f g h=>f103t25 N a b c j d e f g h K)
def f103t21 N a b c d e f g h i (K:KT ρ):=vQ (λk=>z01.Z22 N a b c d e f g h i k) (f103t22 N a b c d e f g h i _) (fx9 λa b c d e f g h i=>f103t23 N a b c d e f g h i K)
def f103t19 N a b c i d e f g h (K:KT ρ):=vQ (λk=>z01.Z20 N a b c i d e f g h k (λa b c d e f g h=>K (.exit 1) (z6j a b c d e f g h))) (f103t20 N a b c i d e f g h _) (fx9 λa b c i d e f g h=>f103t21 N a b c i d e f g h K)
def f103t17 N a b c d e f g h (K:KT ρ):=vQ (λk=>z01.Z18 N a b c d e f g h k) (f103t18 N a b c d e f g h _) (fx9 λa b c i d e f g h=>f103t19 N a b c i d e f g h K)
def f103t16 N a b c d e f g h (K:KT ρ):=vB 1 zcq K (z01.Z16 N a b c d e f g h (λa b c d e f g h=>K .nrm (z6j a b c d e f g h)) (λi=>K .ret (z3v i))) (f103t17 N a b c d e f g h _) (by kernel_rfl)
def f103t76 N a b c d e f g h (K:KT ρ):z4h N 1943 (z6j a b c d e f g h) zcq K =
 z01.Z76 N a b c d e f g h (λa b c d e f g h=>K .nrm (z6j a b c d e f g h)):=by kernel_rfl
def f103t15 N a b c d e f g h (K:KT ρ):=vQ (λk=>z01.Z16 N a b c d e f g h k (λi=>K .ret (z3v i))) (f103t16 N a b c d e f g h _) (fx8 λa b c d e f g h=>f103t76 N a b c d e f g h K)
def f103t13 N b c a d e i f g h (K:KT ρ):=vQ (λk=>z01.Z14 N b c a d e i f g h k (λa=>K (.exit 0) (zbx a))) (f103t14 N b c a d e i f g h _) (fx8 λb c a d e f g h=>f103t15 N b c a d e f g h K)
def f103t11 N a b c d e f g h (K:KT ρ):=vQ (λk=>z01.Z12 N a b c d e f g h k) (f103t12 N a b c d e f g h _) (fx9 λa b c d e i f g h=>f103t13 N a b c d e i f g h K)
def f103t10L N (K:KT ρ):=lp8 K (z01.Z10L N (λa=>K (.exit 0) (zbx a)) (λb=>K .ret (z3v b))) (λc d a e f g h i k=>z01.Z11 N c d a e f g h i k (λa=>K (.exit 0) (zbx a)) (λb=>K .ret (z3v b))) (λF c d a e f g h i=>f103t11 N c d a e f g h i _) (by kernel_rfl)
def f103t10 N a b c d e f g h (K:KT ρ):=vL (z6j a b c d e f g h) (f103t10L N (jK zlt K) N a b c d e f g h) (by kernel_rfl)
def f103t9 N b c a d e f g h (K:KT ρ):=vB 0 zlt K (z01.Z9 N b c a d e f g h (λa=>K .nrm (zbx a)) (λi=>K .ret (z3v i))) (f103t10 N b c a d e f g h _) (by kernel_rfl)
def f103t7 N a b c d e f (K:KT ρ):=vQ (λk=>z01.Z8 N a b c d e f k) (f103t8 N a b c d e f _) (fx8 λa b c g h d e f=>f103t9 N a b c g h d e f K)
def f103t77 N a (K:KT ρ):z4h N 31 (zbx a) f103lE K =
 z01.Z77 N a (λb=>K .ret (z3v b)):=by kernel_rfl
def f103t6 N b c a d e f (K:KT ρ):=vQ (λk=>z01.Z7 N b c a d e f k (λg=>K .ret (z3v g))) (f103t7 N b c a d e f _) (funext λa=>f103t77 N a K)
def f103t4 N a b c d e (K:KT ρ):=vQ (λk=>z01.Z5 N a b c d e k) (f103t5 N a b c d e _) (fx6 λa b f c d e=>f103t6 N a b f c d e K)
def f103t2 N a b c (K:KT ρ):=vQ (λk=>z01.Z3 N a b c k) (f103t3 N a b c _) (fx5 λd e a b c=>f103t4 N d e a b c K)
def f103t0 N a (K:KT ρ):=vQ (λk=>z01.Z1 N a k) (f103t1 N a _) (fx3 λb c d=>f103t2 N b c d K)
def f103ok(h:z01.Spec):z0a Tryz.prog 103 e103 :=
 okC Tryz.func103 z2t f103GOk (λN X K=>f103t0 N X.1 K) (by kernel_rfl) λX hb hp=>by
  obtain⟨a,_⟩:=X
  obtain⟨N,h⟩:=h a hb.1 hp
  exact⟨N,Eq.trans (by kernel_rfl) (h N (Nat.le_refl N))⟩
def e103ok:z0a Tryz.prog 103 e103:=f103ok z01.ok
end Go.Fw
namespace Go.Fw
variable {ρ : Type}
open Go.Proofs
def f63sig:Sig:=⟨[⟨.pair (.int .i64) (.pair (.int .i64) (.sl 3 (.int .i64))),true,false⟩],[⟨.bool,false,false⟩]⟩
def e63:z29:=⟨f63sig,none,λX=>((),((z2e.g X.1),()))⟩
def f63G:Gm:=z3q (z3q z1r 102 e102) 103 e103
def f63GOk:GOk Tryz.prog f63G:=((GOk.nil).add e102ok (by kernel_rfl)).add e103ok (by kernel_rfl)
def f63lE:z00:=⟨[],[],[],[],[]⟩
def f63s0(a:MT):St:=z1p f63sig.ps (a,())
def f63s1(a:Bool):St:=z14 [(2,xB a)] [] []
def f63l1:z00:=⟨[2],[],[],[],[]⟩
def f63B:Nat->Option z00:=z1b [(1000000,f63l1)]
abbrev f63j{ρ:Type}(N n:Nat)(σ:St)(l:z00)(K:KT ρ):Option ρ:=z0r f63G tab f63B N (z2q 99 (z1s Tryz.f63) n) .n σ (z16 (some l) K)
def f63t0 N a (K:KT ρ):f63j N 1 (f63s0 a) f63lE K =
 z2e.Z0 N a (λb=>K .ret (f63s1 b)):=by kernel_rfl
def f63ok(h:z2e.Spec):z0a Tryz.prog 63 e63 :=
 okC Tryz.func63 z2t f63GOk (λN X K=>f63t0 N X.1 K) (by kernel_rfl) λX hb hp=>by
  obtain⟨a,_⟩:=X
  obtain⟨N,h⟩:=h a hb.1
  exact⟨N,Eq.trans (by kernel_rfl) (h N (Nat.le_refl N))⟩
def e63ok:z0a Tryz.prog 63 e63:=f63ok z2e.ok
end Go.Fw
namespace Go.Fw
variable {ρ : Type}
open Go.Proofs
def f69sig:Sig:=⟨[⟨.sl 3 (.int .i64),false,false⟩],[⟨.sl 3 (.int .i64),false,false⟩]⟩
def e69:z29:=⟨f69sig,(some λX=>z0n.P X.1),λX=>((),((z0n.g X.1),()))⟩
def f69G:Gm:=z1r
def f69GOk:GOk Tryz.prog f69G:=GOk.nil
def f69lE:z00:=⟨[],[],[],[],[]⟩
def f69s0(a:LI):St:=z1p f69sig.ps (a,())
def f69s1(a:LI):St:=z14 [(2,xo 1000128)] [] [(1000128,(⟨3,.int .i64,a,true,false⟩:Row))]
def f69l1:z00:=⟨[2],[],[⟨⟨false,2,0⟩,30000000,3,.int .i64,true⟩],[],[(⟨false,2,0⟩,1000128)]⟩
def f69B:Nat->Option z00:=z1b [(1000000,f69l1)]
abbrev f69j{ρ:Type}(N n:Nat)(σ:St)(l:z00)(K:KT ρ):Option ρ:=z0r f69G tab f69B N (z2q 99 (z1s Tryz.f69) n) .n σ (z16 (some l) K)
def f69t0 N a (K:KT ρ):f69j N 1 (f69s0 a) f69lE K =
 z0n.Z0 N a (λb=>K .ret (f69s1 b)):=by kernel_rfl
def f69ok(h:z0n.Spec):z0a Tryz.prog 69 e69 :=
 okC Tryz.func69 z2t f69GOk (λN X K=>f69t0 N X.1 K) (by kernel_rfl) λX hb hp=>by
  obtain⟨a,_⟩:=X
  obtain⟨N,h⟩:=h a hb.1 hp
  exact⟨N,Eq.trans (by kernel_rfl) (h N (Nat.le_refl N))⟩
def e69ok:z0a Tryz.prog 69 e69:=f69ok z0n.ok
end Go.Fw
namespace Go.Fw
variable {ρ : Type}
open Go.Proofs
def f115rf:Rf:=none
def f115ps:List PT:=[⟨.sl 3 (.int .i64),false,true⟩,⟨.int .i64,false,false⟩,⟨.sl 3 (.int .i64),false,true⟩]
def f115rs:List PT:=[⟨.sl 3 (.int .i64),false,false⟩]
def e115:z74:=⟨f115rf,f115ps,f115rs,(some λX=>z1e.P X.2.1 X.2.2.1 X.2.2.2.1),λX=>((),((z1e.g X.2.1 X.2.2.1 X.2.2.2.1),()))⟩
def f115ren:Go.Shelf.Ren:=⟨λ| 21=>115 | 27=>155 | 28=>156 | 35=>181 | 39=>194 | n=>n,λ| 22=>22 | 3=>3 | 4=>4 | 0=>0 | n=>n,λn=>n⟩
def f115lay:Lays2.n21 Tryz.prog f115ren:={ mixed:=(by kernel_rfl),f21:=Tryz.func115.trans (congrArg some (by kernel_rfl)),f27:=Tryz.func155.trans (congrArg some (by kernel_rfl)),f28:=Tryz.func156.trans (congrArg some (by kernel_rfl)),f35:=Tryz.func181.trans (congrArg some (by kernel_rfl)),f39:=Tryz.func194.trans (congrArg some (by kernel_rfl)),t0:=Tryz.underlying0,a0:=Tryz.isAgg0,z0:=Tryz.sizeOf0,v0:=Tryz.zeroValue0,t3:=Tryz.underlying3,a3:=Tryz.isAgg3,z3:=Tryz.sizeOf3,v3:=Tryz.zeroValue3,t4:=Tryz.underlying4,a4:=Tryz.isAgg4,z4:=Tryz.sizeOf4,v4:=Tryz.zeroValue4,t22:=Tryz.underlying22,a22:=Tryz.isAgg22,z22:=Tryz.sizeOf22,v22:=Tryz.zeroValue22,i3:=(by kernel_rfl) }
def f115ok(_:True):z3e Tryz.prog 115 e115:=zrq f115lay
def e115ok:z3e Tryz.prog 115 e115:=f115ok z1e.ok
end Go.Fw
namespace Go.Fw
variable {ρ : Type}
open Go.Proofs
def f80sig:Sig:=⟨[⟨.int .i64,false,false⟩],[⟨.sl 22 (.sl 3 (.int .i64)),false,false⟩]⟩
def e80:z29:=⟨f80sig,(some λX=>z0h.P X.1),λX=>((),((z0h.g X.1),()))⟩
def f80G:Gm:=addM (z3q z1r 69 e69) 115 e115
def f80GOk:GOk Tryz.prog f80G:=((GOk.nil).add e69ok (by kernel_rfl)).addM e115ok (by kernel_rfl)
def f80lE:z00:=⟨[],[],[],[],[]⟩
def f80s0(a:Int):St:=z1p f80sig.ps (a,())
def f80s1(a:Int):St:=z14 [(0,xi a)] [] []
def f80l1:z00:=⟨[0],[],[],[],[]⟩
def f80s2(a:LL)(b:Int):St:=z14 [(0,xi b),(3,xo 1000192)] [] [(1000192,(⟨22,.sl 3 tI,a,true,false⟩:Row))]
def f80l2:z00:=⟨[0,3],[],[],[],[(⟨false,3,0⟩,1000192)]⟩
def zhd(a:LL)(b c:Int):St:=z14 [(0,xi b),(3,xo 1000192),(4,xi c)] [] [(1000192,(⟨22,.sl 3 tI,a,true,false⟩:Row))]
def zpc:z00:=⟨[0,3,4],[],[],[],[(⟨false,3,0⟩,1000192)]⟩
def f80s4(a:LL)(b d:Int):St:=z14 [(0,xi b),(3,xo 1000192),(4,xi d),(5,.c (.nil))] [] [(1000192,(⟨22,.sl 3 tI,a,true,false⟩:Row))]
def f80l4:z00:=⟨[0,3,4,5],[],[],[],[(⟨false,3,0⟩,1000192)]⟩
def f80s5(a:LL)(b d e f:Int):St:=z14 [(0,xi b),(4,xi d),(5,.c (.nil)),(15,xo 1000960),(16,xi e),(17,xi f)] [] [(1000960,(⟨22,.sl 3 tI,a,true,false⟩:Row))]
def f80l5:z00:=⟨[0,4,5,15,16,17],[],[],[],[(⟨false,15,0⟩,1000960)]⟩
def zck(a b:LL)(c d e f:Int):St:=z14 [(0,xi c),(4,xi d),(5,xo 1000320),(15,xo 1000960),(16,xi e),(17,xi f)] [] [(1000320,(⟨22,.sl 3 tI,a,true,false⟩:Row)),(1000960,(⟨22,.sl 3 tI,b,true,false⟩:Row))]
def zfx:z00:=⟨[0,4,5,15,16,17],[],[],[],[(⟨false,5,0⟩,1000320),(⟨false,15,0⟩,1000960)]⟩
def f80s11(a b:LL)(c d e f:Int):St:=z14 [(0,xi c),(4,xi d),(5,xo 1000320),(15,xo 1000960),(16,xi e),(17,xi f)] [] [(1000320,(⟨22,.sl 3 tI,a,true,false⟩:Row)),(1000960,(⟨22,.sl 3 tI,b,true,false⟩:Row))]
def f80l11:z00:=⟨[0,4,5,15,16,17],[],[⟨⟨false,5,0⟩,30000000,22,.sl 3 (.int .i64),true⟩],[],[(⟨false,5,0⟩,1000320),(⟨false,15,0⟩,1000960)]⟩
def f80s12(a b:LL)(c d e f:Int)(g:Bool):St:=z14 [(0,xi c),(4,xi d),(5,xo 1000320),(15,xo 1000960),(16,xi e),(17,xi f),(18,xB g)] [] [(1000320,(⟨22,.sl 3 tI,a,true,false⟩:Row)),(1000960,(⟨22,.sl 3 tI,b,true,false⟩:Row))]
def f80l12:z00:=⟨[0,4,5,15,16,17,18],[],[],[],[(⟨false,5,0⟩,1000320),(⟨false,15,0⟩,1000960)]⟩
def f80s13(a b:LL)(d e:Int)(f:LI)(g h:Int):St:=z14 [(0,xi d),(4,xi e),(5,xo 1000320),(7,.c (.sn 3 tI f (some 1000960))),(15,xo 1000960),(16,xi g),(17,xi h)] [] [(1000320,(⟨22,.sl 3 tI,a,true,false⟩:Row)),(1000960,(⟨22,.sl 3 tI,b,true,false⟩:Row))]
def f80l13:z00:=⟨[0,4,5,7,15,16,17],[],[],[],[(⟨false,5,0⟩,1000320),(⟨false,15,0⟩,1000960)]⟩
def znl(a b:LL)(d e:Int)(f:LI)(g h i:Int):St:=z14 [(0,xi d),(4,xi e),(5,xo 1000320),(7,.c (.sn 3 tI f (some 1000960))),(8,xi g),(15,xo 1000960),(16,xi h),(17,xi i)] [] [(1000320,(⟨22,.sl 3 tI,a,true,false⟩:Row)),(1000960,(⟨22,.sl 3 tI,b,true,false⟩:Row))]
def f80l14:z00:=⟨[0,4,5,7,8,15,16,17],[],[],[],[(⟨false,5,0⟩,1000320),(⟨false,15,0⟩,1000960)]⟩
def zfw(a:LL)(b c:Int):St:=z14 [(0,xi b),(4,xi c),(5,xo 1000320)] [] [(1000320,(⟨22,.sl 3 tI,a,true,false⟩:Row))]
def zs4:z00:=⟨[0,4,5],[],[],[],[(⟨false,5,0⟩,1000320)]⟩
def zfv(a:LL):St:=z14 [(3,xo 1000192)] [] [(1000192,(⟨22,.sl 3 tI,a,true,false⟩:Row))]
def zs3:z00:=⟨[3],[],[],[],[(⟨false,3,0⟩,1000192)]⟩
def f80s17(a:LL):St:=z14 [(2,xo 1000128)] [] [(1000128,(⟨22,.sl 3 tI,a,true,false⟩:Row))]
def f80l17:z00:=⟨[2],[],[],[],[(⟨false,2,0⟩,1000128)]⟩
def f80B:Nat->Option z00:=z1b [(4,zfx),(3,zfx),(2,zs4),(1,zpc),(0,zs3),(1000000,f80l17)]
abbrev zlp{ρ:Type}(N n:Nat)(σ:St)(l:z00)(K:KT ρ):Option ρ:=z0r f80G tab f80B N (z2q 99 (z1s Tryz.f80) n) .n σ (z16 (some l) K)
def f80t1 N a (K:KT ρ):zlp N 2 (f80s0 a) f80l1 K =
 z0h.Z1 N a (λa=>K .nrm (f80s1 a)):=by kernel_rfl
def f80t3 N a (K:KT ρ):zlp N 5 (f80s1 a) f80l2 K =
 z0h.Z3 N a (λb a=>K .nrm (f80s2 b a)):=by kernel_rfl
def f80t6 N a b (K:KT ρ):zlp N 19 (f80s2 a b) zpc K =
 z0h.Z6 N a b (λa b c=>K .nrm (zhd a b c)):=by kernel_rfl
def f80t10 N a b c (K:KT ρ):zlp N 139 (zhd a b c) zpc K =
 z0h.Z10 N a b c (λa b c=>K .nrm (zhd a b c)) (λa=>K (.exit 0) (zfv a)):=by kernel_rfl
def f80t14 N a b c (K:KT ρ):zlp N 1099 (zhd a b c) f80l4 K =
 z0h.Z14 N a b c (λa b c=>K .nrm (f80s4 a b c)):=by kernel_rfl
def f80t17 N c a b (K:KT ρ):zlp N 4683 (f80s4 c a b) f80l5 K =
 z0h.Z17 N c a b (λd a b e f=>K .nrm (f80s5 d a b e f)):=by kernel_rfl
def f80t21 N a b c d e f (K:KT ρ):zlp N 35403 (f80s11 a b c d e f) f80l12 K =
 z0h.Z21 N a b c d e f (λa b c d e f g=>K .nrm (f80s12 a b c d e f g)):=by kernel_rfl
def f80t23 N a d b c e f g (K:KT ρ):zlp N 84555 (f80s12 a d b c e f g) zfx K =
 z0h.Z23 N a d b c e f g (λa d b c e f=>K .nrm (zck a d b c e f)) (λa b c=>K (.exit 2) (zfw a b c)):=by kernel_rfl
def f80t27 N a b c d e f (K:KT ρ):zlp N 576075 (zck a b c d e f) f80l13 K =
 z0h.Z27 N a b c d e f (λa b c d g e f=>K .nrm (f80s13 a b c d g e f)):=by kernel_rfl
def f80t29 N a b c d e f g (K:KT ρ):zlp N 1362507 (f80s13 a b c d e f g) f80l14 K =
 z0h.Z29 N a b c d e f g (λa b c d e h f g=>K .nrm (znl a b c d e h f g)):=by kernel_rfl
def f80t32 N a b c d g h e f (K:KT ρ):zlp N 5032523 (znl a b c d g h e f) f80l14 K =
 z0h.Z32 N a b c d g h e f (λa b c d g h e f=>K .nrm (znl a b c d g h e f)) (λa b c d e f=>K (.exit 4) (zck a b c d e f)):=by kernel_rfl
def f80t31L N (K:KT ρ):=lp8 K (z0h.Z31L N (λa b c d e f=>K (.exit 4) (zck a b c d e f))) (λa b c d g h e f k=>z0h.Z32 N a b c d g h e f k (λa b c d e f=>K (.exit 4) (zck a b c d e f))) (λF a b c d g h e f=>f80t32 N a b c d g h e f _) (by kernel_rfl)
def f80t31 N a b c d e f g h (K:KT ρ):=vL (znl a b c d e f g h) (f80t31L N (jK zfx K) N a b c d e f g h) (by kernel_rfl)
def f80t30 N a b c d g h e f (K:KT ρ):=vB 4 zfx K (z0h.Z30 N a b c d g h e f (λa b c d e f=>K .nrm (zck a b c d e f))) (f80t31 N a b c d g h e f _) (by kernel_rfl)
def f80t28 N a b c d e f g (K:KT ρ):=vQ (λk=>z0h.Z29 N a b c d e f g k) (f80t29 N a b c d e f g _) (fx8 λa b c d e h f g=>f80t30 N a b c d e h f g K)
def f80t26 N a b c d e f (K:KT ρ):=vQ (λk=>z0h.Z27 N a b c d e f k) (f80t27 N a b c d e f _) (fx7 λa b c d g e f=>f80t28 N a b c d g e f K)
def f80t25 N a b c d e f (K:KT ρ):=vB 3 zfx K (z0h.Z25 N a b c d e f (λa b c d e f=>K .nrm (zck a b c d e f))) (f80t26 N a b c d e f _) (by kernel_rfl)
def f80t33 N a b c d e f (K:KT ρ):zlp N 248395 (zck a b c d e f) f80l11 K =
 z0h.Z33 N a b c d e f (λa b c d e f=>K .nrm (f80s11 a b c d e f)):=by kernel_rfl
def f80t24 N a b c d e f (K:KT ρ):=vQ (λk=>z0h.Z25 N a b c d e f k) (f80t25 N a b c d e f _) (fx6 λa b c d e f=>f80t33 N a b c d e f K)
def f80t22 N a d b c e f g (K:KT ρ):=vQ (λk=>z0h.Z23 N a d b c e f g k (λa b c=>K (.exit 2) (zfw a b c))) (f80t23 N a d b c e f g _) (fx6 λa d b c e f=>f80t24 N a d b c e f K)
def f80t20 N a b c d e f (K:KT ρ):=vQ (λk=>z0h.Z21 N a b c d e f k) (f80t21 N a b c d e f _) (fx7 λa b c d e f g=>f80t22 N a b c d e f g K)
def f80t19L N (K:KT ρ):=lp6 K (z0h.Z19L N (λa b c=>K (.exit 2) (zfw a b c))) (λa d b c e f k=>z0h.Z20 N a d b c e f k (λa b c=>K (.exit 2) (zfw a b c))) (λF a d b c e f=>f80t20 N a d b c e f _) (by kernel_rfl)
def f80t19 N a b c d e (K:KT ρ):=vL (f80s5 a b c d e) (f80t19L N (jK zs4 K) N ([]:List (LI)) a b c d e) (by kernel_rfl)
def f80t18 N c a b d e (K:KT ρ):=vB 2 zs4 K (z0h.Z18 N c a b d e (λf a b=>K .nrm (zfw f a b))) (f80t19 N c a b d e _) (by kernel_rfl)
def f80t16 N c a b (K:KT ρ):=vQ (λk=>z0h.Z17 N c a b k) (f80t17 N c a b _) (fx5 λd a b e f=>f80t18 N d a b e f K)
def f80t34 N c a b (K:KT ρ):zlp N 3659 (zfw c a b) zpc K =
 z0h.Z34 N c a b (λd a b=>K .nrm (zhd d a b)):=by kernel_rfl
def f80t15 N c a b (K:KT ρ):=vQ (λk=>z0h.Z16 N c a b k) (f80t16 N c a b _) (fx3 λd a b=>f80t34 N d a b K)
def f80t13 N a b c (K:KT ρ):=vQ (λk=>z0h.Z14 N a b c k) (f80t14 N a b c _) (fx3 λa b c=>f80t15 N a b c K)
def f80t12 N a b c (K:KT ρ):=vB 1 zpc K (z0h.Z12 N a b c (λa b c=>K .nrm (zhd a b c))) (f80t13 N a b c _) (by kernel_rfl)
def f80t35 N a b c (K:KT ρ):zlp N 459 (zhd a b c) zpc K =
 z0h.Z35 N a b c (λa b c=>K .nrm (zhd a b c)):=by kernel_rfl
def f80t11 N a b c (K:KT ρ):=vQ (λk=>z0h.Z12 N a b c k) (f80t12 N a b c _) (fx3 λa b c=>f80t35 N a b c K)
def f80t9 N a b c (K:KT ρ):=vQ (λk=>z0h.Z10 N a b c k (λa=>K (.exit 0) (zfv a))) (f80t10 N a b c _) (fx3 λa b c=>f80t11 N a b c K)
def f80t8L N (K:KT ρ):=lp3 K (z0h.Z8L N (λa=>K (.exit 0) (zfv a))) (λa b c k=>z0h.Z9 N a b c k (λa=>K (.exit 0) (zfv a))) (λF a b c=>f80t9 N a b c _) (by kernel_rfl)
def f80t8 N a b c (K:KT ρ):=vL (zhd a b c) (f80t8L N (jK zs3 K) N a b c) (by kernel_rfl)
def f80t7 N a b c (K:KT ρ):=vB 0 zs3 K (z0h.Z7 N a b c (λa=>K .nrm (zfv a))) (f80t8 N a b c _) (by kernel_rfl)
def f80t5 N a b (K:KT ρ):=vQ (λk=>z0h.Z6 N a b k) (f80t6 N a b _) (fx3 λa b c=>f80t7 N a b c K)
def f80t36 N a (K:KT ρ):zlp N 15 (zfv a) f80lE K =
 z0h.Z36 N a (λb=>K .ret (f80s17 b)):=by kernel_rfl
def f80t4 N a b (K:KT ρ):=vQ (λk=>z0h.Z5 N a b k) (f80t5 N a b _) (funext λa=>f80t36 N a K)
def f80t2 N a (K:KT ρ):=vQ (λk=>z0h.Z3 N a k) (f80t3 N a _) (fx2 λb a=>f80t4 N b a K)
def f80t0 N a (K:KT ρ):=vQ (λk=>z0h.Z1 N a k) (f80t1 N a _) (funext λa=>f80t2 N a K)
def f80ok(h:z0h.Spec):z0a Tryz.prog 80 e80 :=
 okC Tryz.func80 z2t f80GOk (λN X K=>f80t0 N X.1 K) (by kernel_rfl) λX hb hp=>by
  obtain⟨a,_⟩:=X
  obtain⟨N,h⟩:=h a hp
  exact⟨N,Eq.trans (by kernel_rfl) (h N (Nat.le_refl N))⟩
def e80ok:z0a Tryz.prog 80 e80:=f80ok z0h.ok
end Go.Fw
namespace Go.Fw
variable {ρ : Type}
open Go.Proofs
def zsj:Sig:=⟨[⟨.sl 3 (.int .i64),false,false⟩,⟨.int .i64,false,false⟩],[⟨.int .i64,false,false⟩]⟩
def e182:z29:=⟨zsj,none,λX=>((),((z0t.g X.1 X.2.1),()))⟩
def f182G:Gm:=z1r
def f182GOk:GOk Tryz.prog f182G:=GOk.nil
def f182lE:z00:=⟨[],[],[],[],[]⟩
def f182s0(a:LI)(b:Int):St:=z1p zsj.ps (a,(b,()))
def f182s1(a:LI)(b:Int):St:=z14 [(0,.c (.sn 3 tI a none)),(1,xi b)] [] []
def f182l1:z00:=⟨[0,1],[],[],[],[]⟩
def znn(a:LI)(b d e:Int):St:=z14 [(0,.c (.sn 3 tI a none)),(1,xi b),(7,xi d),(8,xi e)] [] []
def f182l2:z00:=⟨[0,1,7,8],[],[],[],[]⟩
def zk0 :St:=z14 [] [] []
def zsk:z00:=⟨[],[],[],[],[]⟩
def zg0(a:Int):St:=z14 [(4,xi a)] [] []
def f182l4:z00:=⟨[4],[],[],[],[]⟩
def f182B:Nat->Option z00:=z1b [(0,zsk),(1000000,f182l4)]
abbrev f182j{ρ:Type}(N n:Nat)(σ:St)(l:z00)(K:KT ρ):Option ρ:=z0r f182G tab f182B N (z2q 99 (z1s Tryz.f182) n) .n σ (z16 (some l) K)
def f182t1 N a b (K:KT ρ):f182j N 2 (f182s0 a b) f182l1 K =
 z0t.Z1 N a b (λa b=>K .nrm (f182s1 a b)):=by kernel_rfl
def f182t4 N a b (K:KT ρ):f182j N 9 (f182s1 a b) f182l2 K =
 z0t.Z4 N a b (λa b c d=>K .nrm (znn a b c d)):=by kernel_rfl
def f182t7 N a b c d (K:KT ρ):f182j N 37 (znn a b c d) f182l2 K =
 z0t.Z7 N a b c d (λa b c d=>K .nrm (znn a b c d)) (K (.exit 0) zk0) (λe=>K .ret (zg0 e)):=by kernel_rfl
def f182t6L N (K:KT ρ):=lp4 K (z0t.Z6L N (K (.exit 0) zk0) (λa=>K .ret (zg0 a))) (λb c d e k=>z0t.Z7 N b c d e k (K (.exit 0) zk0) (λa=>K .ret (zg0 a))) (λF b c d e=>f182t7 N b c d e _) (by kernel_rfl)
def f182t6 N a b c d (K:KT ρ):=vL (znn a b c d) (f182t6L N (jK zsk K) N a b c d) (by kernel_rfl)
def f182t5 N a b c d (K:KT ρ):=vB 0 zsk K (z0t.Z5 N a b c d (K .nrm zk0) (λe=>K .ret (zg0 e))) (f182t6 N a b c d _) (by kernel_rfl)
def f182t3 N a b (K:KT ρ):=vQ (λk=>z0t.Z4 N a b k) (f182t4 N a b _) (fx4 λa b c d=>f182t5 N a b c d K)
def f182t8 N  (K:KT ρ):f182j N 7 zk0 f182lE K =
 z0t.Z8 N (λa=>K .ret (zg0 a)):=by kernel_rfl
def f182t2 N a b (K:KT ρ):=vQ (λk=>z0t.Z3 N a b k (λc=>K .ret (zg0 c))) (f182t3 N a b _) (f182t8 N K)
def f182t0 N a b (K:KT ρ):=vQ (λk=>z0t.Z1 N a b k) (f182t1 N a b _) (fx2 λa b=>f182t2 N a b K)
def f182ok(h:z0t.Spec):z0a Tryz.prog 182 e182 :=
 okC Tryz.func182 z2t f182GOk (λN X K=>f182t0 N X.1 X.2.1 K) (by kernel_rfl) λX hb hp=>by
  obtain⟨a,b,_⟩:=X
  obtain⟨N,h⟩:=h a b hb.1
  exact⟨N,Eq.trans (by kernel_rfl) (h N (Nat.le_refl N))⟩
def e182ok:z0a Tryz.prog 182 e182:=f182ok z0t.ok
end Go.Fw
namespace Go.Fw
variable {ρ : Type}
open Go.Proofs
def zsp:Sig:=⟨[⟨.sl 3 (.int .i64),false,false⟩,⟨.int .i64,false,false⟩],[⟨.bool,false,false⟩]⟩
def e157:z29:=⟨zsp,none,λX=>((),((z1j.g X.1 X.2.1),()))⟩
def f157G:Gm:=z3q z1r 182 e182
def f157GOk:GOk Tryz.prog f157G:=(GOk.nil).add e182ok (by kernel_rfl)
def f157lE:z00:=⟨[],[],[],[],[]⟩
def f157s0(a:LI)(b:Int):St:=z1p zsp.ps (a,(b,()))
def f157s1(a:Bool):St:=z14 [(4,xB a)] [] []
def f157l1:z00:=⟨[4],[],[],[],[]⟩
def f157B:Nat->Option z00:=z1b [(1000000,f157l1)]
abbrev f157j{ρ:Type}(N n:Nat)(σ:St)(l:z00)(K:KT ρ):Option ρ:=z0r f157G tab f157B N (z2q 99 (z1s Tryz.f157) n) .n σ (z16 (some l) K)
def f157t0 N a b (K:KT ρ):f157j N 1 (f157s0 a b) f157lE K =
 z1j.Z0 N a b (λc=>K .ret (f157s1 c)):=by kernel_rfl
def f157ok(h:z1j.Spec):z0a Tryz.prog 157 e157 :=
 okC Tryz.func157 z2t f157GOk (λN X K=>f157t0 N X.1 X.2.1 K) (by kernel_rfl) λX hb hp=>by
  obtain⟨a,b,_⟩:=X
  obtain⟨N,h⟩:=h a b hb.1
  exact⟨N,Eq.trans (by kernel_rfl) (h N (Nat.le_refl N))⟩
def e157ok:z0a Tryz.prog 157 e157:=f157ok z1j.ok
end Go.Fw
namespace Go.Fw
variable {ρ : Type}
open Go.Proofs
def zt3:Sig:=⟨[⟨.sl 3 (.int .i64),false,false⟩,⟨.int .i64,false,false⟩],[⟨.bool,false,false⟩]⟩
def e116:z29:=⟨zt3,none,λX=>((),((z1n.g X.1 X.2.1),()))⟩
def f116G:Gm:=z3q (z3q z1r 91 e91) 157 e157
def f116GOk:GOk Tryz.prog f116G:=((GOk.nil).add e91ok (by kernel_rfl)).add e157ok (by kernel_rfl)
def f116lE:z00:=⟨[],[],[],[],[]⟩
def f116s0(a:LI)(b:Int):St:=z1p zt3.ps (a,(b,()))
def znw(a:LI)(b:Int):St:=z14 [(0,.c (.sn 3 tI a none)),(1,xi b)] [] []
def f116l1:z00:=⟨[0,1],[],[],[],[]⟩
def znv(a:LI)(b:Int)(d:LI)(e f:Int):St:=z14 [(0,.c (.sn 3 tI a none)),(1,xi b),(11,.c (.sn 3 tI d none)),(12,xi e),(13,xi f)] [] []
def f116l2:z00:=⟨[0,1,11,12,13],[],[],[],[]⟩
def zk8 :St:=z14 [] [] []
def zt4:z00:=⟨[],[],[],[],[]⟩
def zcn(a:Bool):St:=z14 [(4,xB a)] [] []
def f116l4:z00:=⟨[4],[],[],[],[]⟩
def f116B:Nat->Option z00:=z1b [(0,zt4),(1000000,f116l4)]
abbrev zt5{ρ:Type}(N n:Nat)(σ:St)(l:z00)(K:KT ρ):Option ρ:=z0r f116G tab f116B N (z2q 99 (z1s Tryz.f116) n) .n σ (z16 (some l) K)
def f116t1 N a b (K:KT ρ):zt5 N 2 (f116s0 a b) f116l1 K =
 z1n.Z1 N a b (λa b=>K .nrm (znw a b)):=by kernel_rfl
def f116t3 N a b (K:KT ρ):zt5 N 5 (znw a b) f116l1 K =
 z1n.Z3 N a b (λa b=>K .nrm (znw a b)) (λc=>K .ret (zcn c)):=by kernel_rfl
def f116t6 N a b (K:KT ρ):zt5 N 19 (znw a b) f116l2 K =
 z1n.Z6 N a b (λa b c d e=>K .nrm (znv a b c d e)):=by kernel_rfl
def f116t9 N a b c d e (K:KT ρ):zt5 N 75 (znv a b c d e) f116l2 K =
 z1n.Z9 N a b c d e (λa b c d e=>K .nrm (znv a b c d e)) (K (.exit 0) zk8) (λf=>K .ret (zcn f)):=by kernel_rfl
def f116t8L N (K:KT ρ):=lp5 K (z1n.Z8L N (K (.exit 0) zk8) (λa=>K .ret (zcn a))) (λb c d e f k=>z1n.Z9 N b c d e f k (K (.exit 0) zk8) (λa=>K .ret (zcn a))) (λF b c d e f=>f116t9 N b c d e f _) (by kernel_rfl)
def f116t8 N a b c d e (K:KT ρ):=vL (znv a b c d e) (f116t8L N (jK zt4 K) N a b c d e) (by kernel_rfl)
def f116t7 N a b c d e (K:KT ρ):=vB 0 zt4 K (z1n.Z7 N a b c d e (K .nrm zk8) (λf=>K .ret (zcn f))) (f116t8 N a b c d e _) (by kernel_rfl)
def f116t5 N a b (K:KT ρ):=vQ (λk=>z1n.Z6 N a b k) (f116t6 N a b _) (fx5 λa b c d e=>f116t7 N a b c d e K)
def f116t10 N  (K:KT ρ):zt5 N 15 zk8 f116lE K =
 z1n.Z10 N (λa=>K .ret (zcn a)):=by kernel_rfl
def f116t4 N a b (K:KT ρ):=vQ (λk=>z1n.Z5 N a b k (λc=>K .ret (zcn c))) (f116t5 N a b _) (f116t10 N K)
def f116t2 N a b (K:KT ρ):=vQ (λk=>z1n.Z3 N a b k (λc=>K .ret (zcn c))) (f116t3 N a b _) (fx2 λa b=>f116t4 N a b K)
def f116t0 N a b (K:KT ρ):=vQ (λk=>z1n.Z1 N a b k) (f116t1 N a b _) (fx2 λa b=>f116t2 N a b K)
def f116ok(h:z1n.Spec):z0a Tryz.prog 116 e116 :=
 okC Tryz.func116 z2t f116GOk (λN X K=>f116t0 N X.1 X.2.1 K) (by kernel_rfl) λX hb hp=>by
  obtain⟨a,b,_⟩:=X
  obtain⟨N,h⟩:=h a b hb.1
  exact⟨N,Eq.trans (by kernel_rfl) (h N (Nat.le_refl N))⟩
def e116ok:z0a Tryz.prog 116 e116:=f116ok z1n.ok
end Go.Fw
namespace Go.Fw
variable {ρ : Type}
open Go.Proofs
def f81sig:Sig:=⟨[⟨.pair (.int .i64) (.pair (.int .i64) (.sl 3 (.int .i64))),true,false⟩,⟨.sl 3 (.int .i64),false,false⟩],[⟨.pair (.int .i64) (.pair (.int .i64) (.sl 3 (.int .i64))),true,false⟩,⟨.bool,false,false⟩]⟩
def e81:z29:=⟨f81sig,none,λX=>((),((z03.g X.1 X.2.1).1,((z03.g X.1 X.2.1).2,())))⟩
def f81G:Gm:=z3q (z3q (z3q z1r 63 e63) 83 e83) 116 e116
def f81GOk:GOk Tryz.prog f81G:=(((GOk.nil).add e63ok (by kernel_rfl)).add e83ok (by kernel_rfl)).add e116ok (by kernel_rfl)
def f81lE:z00:=⟨[],[],[],[],[]⟩
def f81s0(a:MT)(b:LI):St:=z1p f81sig.ps (a,(b,()))
def f81s1(a:LI)(b d:Int)(e:LI)(f g:Int):St:=z14 [(1,.c (.sn 3 tI a none)),(2,xb 2),(4,xb 4)] [(2,(27,[yi b,yi d,.sn 3 tI e none])),(4,(27,[yi f,yi g,.nil]))] []
def f81l1:z00:=⟨[1,2,4],[2,4],[],[],[]⟩
def f81s2(a b:LI)(d e:Int)(f:LI)(g h i j:Int):St:=z14 [(1,.c (.sn 3 tI b none)),(2,xb 2),(4,xb 4),(6,xb 6)] [(2,(27,[yi d,yi e,.sn 3 tI f none])),(4,(27,[yi g,yi h,.nil])),(6,(27,[yi i,yi j,.own 20000386]))] [(20000386,(⟨3,.int .i64,a,true,false⟩:Row))]
def f81l2:z00:=⟨[1,2,4,6],[2,4,6],[],[],[(⟨true,6,2⟩,20000386)]⟩
def zcz(a b:LI)(d e f:Int)(g:LI)(h i j l:Int):St:=z14 [(1,.c (.sn 3 tI b none)),(2,xb 2),(4,xb 4),(6,xb 6),(7,xi d)] [(2,(27,[yi e,yi f,.sn 3 tI g none])),(4,(27,[yi h,yi i,.nil])),(6,(27,[yi j,yi l,.own 20000386]))] [(20000386,(⟨3,.int .i64,a,true,false⟩:Row))]
def zjr:z00:=⟨[1,2,4,6,7],[2,4,6],[],[],[(⟨true,6,2⟩,20000386)]⟩
def f81s4(a b:LI)(d e f g:Int)(h:LI)(i j l m:Int):St:=z14 [(1,.c (.sn 3 tI b none)),(2,xb 2),(4,xb 4),(6,xb 6),(7,xi d),(8,xi e)] [(2,(27,[yi f,yi g,.sn 3 tI h none])),(4,(27,[yi i,yi j,.nil])),(6,(27,[yi l,yi m,.own 20000386]))] [(20000386,(⟨3,.int .i64,a,true,false⟩:Row))]
def f81l4:z00:=⟨[1,2,4,6,7,8],[2,4,6],[],[],[(⟨true,6,2⟩,20000386)]⟩
def f81s5(a b:LI)(d e f g h:Int)(i:LI)(j l m o:Int):St:=z14 [(1,.c (.sn 3 tI b none)),(2,xb 2),(4,xb 4),(6,xb 6),(7,xi d),(8,xi e),(9,xi f)] [(2,(27,[yi g,yi h,.sn 3 tI i none])),(4,(27,[yi j,yi l,.nil])),(6,(27,[yi m,yi o,.own 20000386]))] [(20000386,(⟨3,.int .i64,a,true,false⟩:Row))]
def f81l5:z00:=⟨[1,2,4,6,7,8,9],[2,4,6],[],[],[(⟨true,6,2⟩,20000386)]⟩
def zpb(a:LI)(b c d e:Int):St:=z14 [(4,xb 4),(6,xb 6)] [(4,(27,[yi b,yi c,.nil])),(6,(27,[yi d,yi e,.own 20000386]))] [(20000386,(⟨3,.int .i64,a,true,false⟩:Row))]
def f81l6:z00:=⟨[4,6],[4,6],[],[],[(⟨true,6,2⟩,20000386)]⟩
def f81s7(a:LI)(b:Bool)(c d:Int):St:=z14 [(4,xb 4),(5,xB b)] [(4,(27,[yi c,yi d,.own 20000258]))] [(20000258,(⟨3,.int .i64,a,true,false⟩:Row))]
def f81l7:z00:=⟨[4,5],[4],[⟨⟨true,4,2⟩,30000000,3,.int .i64,true⟩],[],[(⟨true,4,2⟩,20000258)]⟩
def f81B:Nat->Option z00:=z1b [(2,zjr),(1,zjr),(0,f81l6),(1000000,f81l7)]
abbrev zs2{ρ:Type}(N n:Nat)(σ:St)(l:z00)(K:KT ρ):Option ρ:=z0r f81G tab f81B N (z2q 99 (z1s Tryz.f81) n) .n σ (z16 (some l) K)
def f81t1 N b a (K:KT ρ):zs2 N 2 (f81s0 b a) f81l1 K =
 z03.Z1 N b a (λa c d e f g=>K .nrm (f81s1 a c d e f g)):=by kernel_rfl
def f81t3 N c d e f a b (K:KT ρ):zs2 N 5 (f81s1 c d e f a b) f81l1 K =
 z03.Z3 N c d e f a b (λc d e f a b=>K .nrm (f81s1 c d e f a b)) (λg h a b=>K .ret (f81s7 g h a b)):=by kernel_rfl
def f81t5 N a b c d e f (K:KT ρ):zs2 N 11 (f81s1 a b c d e f) f81l2 K =
 z03.Z5 N a b c d e f (λg a b c d e f h i=>K .nrm (f81s2 g a b c d e f h i)):=by kernel_rfl
def f81t8 N a b c d e f g h i (K:KT ρ):zs2 N 39 (f81s2 a b c d e f g h i) zjr K =
 z03.Z8 N a b c d e f g h i (λa b j c d e f g h i=>K .nrm (zcz a b j c d e f g h i)):=by kernel_rfl
def f81t12 N a f g h i j b c d e (K:KT ρ):zs2 N 279 (zcz a f g h i j b c d e) zjr K =
 z03.Z12 N a f g h i j b c d e (λa f g h i j b c d e=>K .nrm (zcz a f g h i j b c d e)) (λa b c d e=>K (.exit 0) (zpb a b c d e)):=by kernel_rfl
def f81t16 N a b c d e f g h i j (K:KT ρ):zs2 N 2199 (zcz a b c d e f g h i j) f81l4 K =
 z03.Z16 N a b c d e f g h i j (λa b c l d e f g h i j=>K .nrm (f81s4 a b c l d e f g h i j)):=by kernel_rfl
def f81t18 N a b c d e f g h i j l (K:KT ρ):zs2 N 5271 (f81s4 a b c d e f g h i j l) f81l4 K =
 z03.Z18 N a b c d e f g h i j l (λa b c d e f g h i j l=>K .nrm (f81s4 a b c d e f g h i j l)):=by kernel_rfl
def f81t20 N a b c d e f g h i j l (K:KT ρ):zs2 N 11415 (f81s4 a b c d e f g h i j l) f81l5 K =
 z03.Z20 N a b c d e f g h i j l (λa b c d m e f g h i j l=>K .nrm (f81s5 a b c d m e f g h i j l)):=by kernel_rfl
def f81t23 N a b c l m d e f g h i j (K:KT ρ):zs2 N 40087 (f81s5 a b c l m d e f g h i j) f81l5 K =
 z03.Z23 N a b c l m d e f g h i j (λa b c l m d e f g h i j=>K .nrm (f81s5 a b c l m d e f g h i j)) (λa b c d e f g h i j=>K (.exit 2) (zcz a b c d e f g h i j)):=by kernel_rfl
def f81t22L N (K:KT ρ):=lp12 K (z03.Z22L N (λa b c d e f g h i j=>K (.exit 2) (zcz a b c d e f g h i j))) (λa b c l m d e f g h i j k=>z03.Z23 N a b c l m d e f g h i j k (λa b c d e f g h i j=>K (.exit 2) (zcz a b c d e f g h i j))) (λF a b c l m d e f g h i j=>f81t23 N a b c l m d e f g h i j _) (by kernel_rfl)
def f81t22 N a b c d e f g h i j l m (K:KT ρ):=vL (f81s5 a b c d e f g h i j l m) (f81t22L N (jK zjr K) N a b c d e f g h i j l m) (by kernel_rfl)
def f81t21 N a b c l m d e f g h i j (K:KT ρ):=vB 2 zjr K (z03.Z21 N a b c l m d e f g h i j (λa b c d e f g h i j=>K .nrm (zcz a b c d e f g h i j))) (f81t22 N a b c l m d e f g h i j _) (by kernel_rfl)
def f81t19 N a b c d e f g h i j l (K:KT ρ):=vQ (λk=>z03.Z20 N a b c d e f g h i j l k) (f81t20 N a b c d e f g h i j l _) (fx12 λa b c d m e f g h i j l=>f81t21 N a b c d m e f g h i j l K)
def f81t17 N a b c d e f g h i j l (K:KT ρ):=vQ (λk=>z03.Z18 N a b c d e f g h i j l k) (f81t18 N a b c d e f g h i j l _) (zky λa b c d e f g h i j l=>f81t19 N a b c d e f g h i j l K)
def f81t15 N a b c d e f g h i j (K:KT ρ):=vQ (λk=>z03.Z16 N a b c d e f g h i j k) (f81t16 N a b c d e f g h i j _) (zky λa b c l d e f g h i j=>f81t17 N a b c l d e f g h i j K)
def f81t14 N a b c d e f g h i j (K:KT ρ):=vB 1 zjr K (z03.Z14 N a b c d e f g h i j (λa b c d e f g h i j=>K .nrm (zcz a b c d e f g h i j))) (f81t15 N a b c d e f g h i j _) (by kernel_rfl)
def f81t24 N a b c d e f g h i j (K:KT ρ):zs2 N 919 (zcz a b c d e f g h i j) zjr K =
 z03.Z24 N a b c d e f g h i j (λa b c d e f g h i j=>K .nrm (zcz a b c d e f g h i j)):=by kernel_rfl
def f81t13 N a b c d e f g h i j (K:KT ρ):=vQ (λk=>z03.Z14 N a b c d e f g h i j k) (f81t14 N a b c d e f g h i j _) (zdc λa b c d e f g h i j=>f81t24 N a b c d e f g h i j K)
def f81t11 N a f g h i j b c d e (K:KT ρ):=vQ (λk=>z03.Z12 N a f g h i j b c d e k (λa b c d e=>K (.exit 0) (zpb a b c d e))) (f81t12 N a f g h i j b c d e _) (zdc λa f g h i j b c d e=>f81t13 N a f g h i j b c d e K)
def f81t10L N (K:KT ρ):=lp10 K (z03.Z10L N (λa b c d e=>K (.exit 0) (zpb a b c d e))) (λa f g h i j b c d e k=>z03.Z11 N a f g h i j b c d e k (λa b c d e=>K (.exit 0) (zpb a b c d e))) (λF a f g h i j b c d e=>f81t11 N a f g h i j b c d e _) (by kernel_rfl)
def f81t10 N a b c d e f g h i j (K:KT ρ):=vL (zcz a b c d e f g h i j) (f81t10L N (jK f81l6 K) N a b c d e f g h i j) (by kernel_rfl)
def f81t9 N a f g h i j b c d e (K:KT ρ):=vB 0 f81l6 K (z03.Z9 N a f g h i j b c d e (λa b c d e=>K .nrm (zpb a b c d e))) (f81t10 N a f g h i j b c d e _) (by kernel_rfl)
def f81t7 N a b c d e f g h i (K:KT ρ):=vQ (λk=>z03.Z8 N a b c d e f g h i k) (f81t8 N a b c d e f g h i _) (zdc λa b j c d e f g h i=>f81t9 N a b j c d e f g h i K)
def f81t25 N c a b d e (K:KT ρ):zs2 N 31 (zpb c a b d e) f81lE K =
 z03.Z25 N c a b d e (λf g a b=>K .ret (f81s7 f g a b)):=by kernel_rfl
def f81t6 N a f g h i b c d e (K:KT ρ):=vQ (λk=>z03.Z7 N a f g h i b c d e k) (f81t7 N a f g h i b c d e _) (fx5 λa b c d e=>f81t25 N a b c d e K)
def f81t4 N a b c d e f (K:KT ρ):=vQ (λk=>z03.Z5 N a b c d e f k) (f81t5 N a b c d e f _) (fx9 λg a b c d e f h i=>f81t6 N g a b c d e f h i K)
def f81t2 N c d e f a b (K:KT ρ):=vQ (λk=>z03.Z3 N c d e f a b k (λg h a b=>K .ret (f81s7 g h a b))) (f81t3 N c d e f a b _) (fx6 λc d e f a b=>f81t4 N c d e f a b K)
def f81t0 N b a (K:KT ρ):=vQ (λk=>z03.Z1 N b a k) (f81t1 N b a _) (fx6 λa c d e f g=>f81t2 N a c d e f g K)
def f81ok(h:z03.Spec):z0a Tryz.prog 81 e81 :=
 okC Tryz.func81 z2t f81GOk (λN X K=>f81t0 N X.1 X.2.1 K) (by kernel_rfl) λX hb hp=>by
  obtain⟨a,b,_⟩:=X
  obtain⟨N,h⟩:=h a b hb.1 hb.2.1
  exact⟨N,Eq.trans (by kernel_rfl) (h N (Nat.le_refl N))⟩
def e81ok:z0a Tryz.prog 81 e81:=f81ok z03.ok
end Go.Fw
namespace Go.Fw
variable {ρ : Type}
open Go.Proofs
variable [DC]
def zsv:Sig:=⟨[⟨.int .i64,false,false⟩],[⟨.bool,false,false⟩]⟩
def e132:z29:=⟨zsv,none,λX=>((),((z2s.g X.1),()))⟩
def f132G:Gm:=z1r
def f132GOk:GOk Tryz.prog f132G:=GOk.nil
def f132lE:z00:=⟨[],[],[],[],[]⟩
def f132s0(a:Int):St:=z1p zsv.ps (a,())
def f132s1(a:Bool):St:=z14 [(2,xB a)] [] []
def f132l1:z00:=⟨[2],[],[],[],[]⟩
def f132B:Nat->Option z00:=z1b [(1000000,f132l1)]
abbrev f132j{ρ:Type}(N n:Nat)(σ:St)(l:z00)(K:KT ρ):Option ρ:=z0r f132G tab f132B N (z2q 99 (z1s Tryz.f132) n) .n σ (z16 (some l) K)
def f132t0 N a (K:KT ρ):f132j N 1 (f132s0 a) f132lE K =
 z2s.Z0 N a (λb=>K .ret (f132s1 b)):=by kernel_rfl
def f132ok(h:z2s.Spec):z0a Tryz.prog 132 e132 :=
 okC Tryz.func132 z2t f132GOk (λN X K=>f132t0 N X.1 K) (by kernel_rfl) λX hb hp=>by
  obtain⟨a,_⟩:=X
  obtain⟨N,h⟩:=h a
  exact⟨N,Eq.trans (by kernel_rfl) (h N (Nat.le_refl N))⟩
def e132ok:z0a Tryz.prog 132 e132:=f132ok z2s.ok
end Go.Fw
namespace Go.Fw
variable {ρ : Type}
open Go.Proofs
variable [DC]
def f95sig:Sig:=⟨[⟨.int .i64,false,false⟩,⟨.int .i64,false,false⟩],[⟨.int .i64,false,false⟩]⟩
def e95:z29:=⟨f95sig,none,λX=>((),((z2b.g X.1 X.2.1),()))⟩
def f95G:Gm:=z3q z1r 132 e132
def f95GOk:GOk Tryz.prog f95G:=(GOk.nil).add e132ok (by kernel_rfl)
def f95lE:z00:=⟨[],[],[],[],[]⟩
def f95s0(a b:Int):St:=z1p f95sig.ps (a,(b,()))
def f95s1(a:Int):St:=z14 [(4,xi a)] [] []
def f95l1:z00:=⟨[4],[],[],[],[]⟩
def f95B:Nat->Option z00:=z1b [(1000000,f95l1)]
abbrev f95j{ρ:Type}(N n:Nat)(σ:St)(l:z00)(K:KT ρ):Option ρ:=z0r f95G tab f95B N (z2q 99 (z1s Tryz.f95) n) .n σ (z16 (some l) K)
def f95t0 N a b (K:KT ρ):f95j N 1 (f95s0 a b) f95lE K =
 z2b.Z0 N a b (λc=>K .ret (f95s1 c)):=by kernel_rfl
def f95ok(h:z2b.Spec):z0a Tryz.prog 95 e95 :=
 okC Tryz.func95 z2t f95GOk (λN X K=>f95t0 N X.1 X.2.1 K) (by kernel_rfl) λX hb hp=>by
  obtain⟨a,b,_⟩:=X
  obtain⟨N,h⟩:=h a b
  exact⟨N,Eq.trans (by kernel_rfl) (h N (Nat.le_refl N))⟩
def e95ok:z0a Tryz.prog 95 e95:=f95ok z2b.ok
end Go.Fw
