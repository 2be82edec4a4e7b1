/- The ties: the program's text comes to the plain functions. Nothing is assumed. -/
import Derived.Test.YtkjnhmjfdfiklaaGreatDoorFza
import Derived.Test.YtkjnhmjfdfiklaaGreatDoorFwd
import Derived.Test.YtkjnhmjfdfiklaaGreatDoorProg
import Derived.Test.YtkjnhmjfdfiklaaGreatDoorPuFnMatrixTextc
import Derived.Test.YtkjnhmjfdfiklaaGreatDoorPuFnMatrixTexta
import Derived.Test.YtkjnhmjfdfiklaaGreatDoorPuFnMatrixTextb
noncomputable section
set_option linter.defProp false
set_option linter.unusedVariables false
set_option linter.unusedSimpArgs false
set_option maxRecDepth 100000
namespace Go.Fw
open Go.Proofs
def tab:Tab:=zh0 [
 (2,⟨false,.int .i64,[.int .i64 0],[],none,8⟩),
 (3,⟨false,.int .i64,[.int .i64 0],[],none,8⟩),
 (4,⟨false,.bool,[.bool false],[],none,1⟩),
 (5,⟨false,.int .u8,[.int .u8 0],[],none,1⟩),
 (6,⟨false,.int .u8,[.int .u8 0],[],none,1⟩),
 (7,⟨true,.pair (.int .i64) (.pair (.int .i64) (.pair (.bool) (.int .u8))),[.int .i64 0,.int .i64 0,.bool false,.int .u8 0],[(0,1,false),(1,1,false),(2,1,false),(3,1,false)],none,24⟩),
 (8,⟨true,.pair (.int .i64) (.pair (.int .i64) (.pair (.bool) (.int .u8))),[.int .i64 0,.int .i64 0,.bool false,.int .u8 0],[(0,1,false),(1,1,false),(2,1,false),(3,1,false)],none,24⟩),
 (9,⟨false,.str,[.str ByteArray.empty],[],none,16⟩),
 (10,⟨false,.str,[.str ByteArray.empty],[],none,16⟩),
 (11,⟨false,.str,[.str ByteArray.empty],[],none,16⟩),
 (12,⟨false,.int .u64,[.int .u64 0],[],none,8⟩),
 (13,⟨true,.pair (.str) (.int .u64),[.str ByteArray.empty,.int .u64 0],[(0,1,false),(1,1,false)],none,24⟩),
 (14,⟨true,.pair (.str) (.int .u64),[.str ByteArray.empty,.int .u64 0],[(0,1,false),(1,1,false)],none,24⟩),
 (20,⟨false,.err,[.err false],[],none,16⟩),
 (21,⟨false,.int .i32,[.int .i32 0],[],none,4⟩),
 (22,⟨false,.sl 3 (.int .i64),[.nil],[],some 3,24⟩),
 (23,⟨true,.pair (.int .i64) (.pair (.int .i64) (.sl 3 (.int .i64))),[.int .i64 0,.int .i64 0,.nil],[(0,1,false),(1,1,false),(2,1,false)],none,40⟩),
 (24,⟨true,.pair (.int .i64) (.pair (.int .i64) (.sl 3 (.int .i64))),[.int .i64 0,.int .i64 0,.nil],[(0,1,false),(1,1,false),(2,1,false)],none,40⟩),
 (27,⟨true,.pair (.int .i64) (.pair (.int .i64) (.sl 3 (.int .i64))),[.int .i64 0,.int .i64 0,.nil],[(0,1,false),(1,1,false),(2,1,false)],none,40⟩),
 (31,⟨false,.sl 27 (.pair (.int .i64) (.pair (.int .i64) (.sl 3 (.int .i64)))),[.nil],[],some 27,24⟩),
 (37,⟨false,.sl 5 (.int .u8),[.nil],[],some 5,24⟩),
 (52,⟨false,.sl 22 (.sl 3 (.int .i64)),[.nil],[],some 22,24⟩),
 (59,⟨false,.pair (.str) (.sl 0 .bool),[.undef],[],none,8⟩),
 (70,⟨false,.sl 9 (.str),[.nil],[],some 9,24⟩),
 (96,⟨false,.int .u64,[.int .u64 0],[],none,8⟩),
 (97,⟨true,.pair (.sl 5 (.int .u8)) (.pair (.int .i64) (.int .i64)),[.nil,.int .i64 0,.int .i64 0],[(0,1,false),(1,1,false),(2,1,false)],none,40⟩),
 (98,⟨true,.pair (.sl 5 (.int .u8)) (.pair (.int .i64) (.int .i64)),[.nil,.int .i64 0,.int .i64 0],[(0,1,false),(1,1,false),(2,1,false)],none,40⟩),
 (102,⟨false,.err,[.err false],[],none,16⟩),
 (103,⟨false,.err,[.err false],[],none,16⟩),
 (109,⟨false,.sl 4 (.bool),[.nil],[],some 4,24⟩),
 (122,⟨false,.int .i64,[.int .i64 0],[],none,8⟩),
 (130,⟨false,.int .u32,[.int .u32 0],[],none,4⟩),
 (132,⟨false,.int .u64,[.int .u64 0],[],none,8⟩),
 (150,⟨false,.int .u64,[.int .u64 0],[],none,8⟩),
 (159,⟨false,.int .i64,[.int .i64 0],[],none,8⟩),
 (179,⟨true,.pair (.str) (.pair (.str) (.err)),[.str ByteArray.empty,.str ByteArray.empty,.err false],[(0,1,false),(1,1,false),(2,1,false)],none,48⟩),
 (180,⟨true,.pair (.str) (.pair (.str) (.err)),[.str ByteArray.empty,.str ByteArray.empty,.err false],[(0,1,false),(1,1,false),(2,1,false)],none,48⟩),
 (189,⟨true,.pair (.int .u8) (.int .u8),[.int .u8 0,.int .u8 0],[(0,1,false),(1,1,false)],none,2⟩),
 (190,⟨true,.pair (.int .u8) (.int .u8),[.int .u8 0,.int .u8 0],[(0,1,false),(1,1,false)],none,2⟩),
 (196,⟨true,.str,[.str ByteArray.empty],[(0,1,false)],none,16⟩),
 (197,⟨true,.str,[.str ByteArray.empty],[(0,1,false)],none,16⟩),
 (209,⟨false,.int .u8,[.int .u8 0],[],none,1⟩),
 (210,⟨false,.int .u8,[.int .u8 0],[],none,1⟩),
 (212,⟨false,.int .i32,[.int .i32 0],[],none,4⟩),
 (213,⟨false,.int .i32,[.int .i32 0],[],none,4⟩)]
def z2w:TOk Tryz.prog tab:=TOk.of (by kernel_rfl)
def tabl : List (String × IntKind × List Int) := [("internal/strconv.uint64pow10", .u64, Lib.pow10Tab)]
def intl : List (String × IntKind) := [("internal/bytealg.MaxLen", .i64)]
def errl : List String := ["strconv.ErrSyntax", "strconv.ErrRange"]
instance:Inv Tryz.prog:=Inv.tabs _ tabl intl errl
theorem tab0 (w : World) (h : Inv.I Tryz.prog w) : Lib.TabIs Tryz.prog w "internal/strconv.uint64pow10" .u64 Lib.pow10Tab := Inv.tab_mem (q := intl) (es := errl) ("internal/strconv.uint64pow10", .u64, Lib.pow10Tab) (List.mem_of_getElem? (i := 0) rfl) w h
theorem int0 (w : World) (h : Inv.I Tryz.prog w) : ∃ g, Tryz.prog.globalNamed "internal/bytealg.MaxLen" = some g ∧ ∃ m, w.cell? ⟨g, 0, none⟩ = some (.int .i64 m) := Inv.int_mem (l := tabl) (es := errl) ("internal/bytealg.MaxLen", .i64) (List.mem_of_getElem? (i := 0) rfl) w h
theorem err0 (w : World) (h : Inv.I Tryz.prog w) : ∃ g, Tryz.prog.globalNamed "strconv.ErrSyntax" = some g ∧ ∃ v b, w.cell? ⟨g, 0, none⟩ = some v ∧ zib v b := Inv.err_mem (l := tabl) (q := intl) "strconv.ErrSyntax" (List.mem_of_getElem? (i := 0) rfl) w h
theorem err1 (w : World) (h : Inv.I Tryz.prog w) : ∃ g, Tryz.prog.globalNamed "strconv.ErrRange" = some g ∧ ∃ v b, w.cell? ⟨g, 0, none⟩ = some v ∧ zib v b := Inv.err_mem (l := tabl) (q := intl) "strconv.ErrRange" (List.mem_of_getElem? (i := 1) rfl) w h
end Go.Fw
namespace Go.Fw
variable {ρ : Type}
open Go.Proofs
def f20sig:Sig:=⟨[⟨.sl 5 (.int .u8),false,false⟩],[⟨.bool,false,false⟩]⟩
def e20:z2j:=⟨f20sig,none,λX=>((),((z61.g X.1),()))⟩
def f20G:Gm:=z1v
def f20GOk:GOk Tryz.prog f20G:=GOk.nil
def f20lE:z01:=⟨[],[],[],[],[]⟩
def f20s0(a:List Int):St:=z2e f20sig.ps (a,())
def f20s1(a:Bool):St:=z1h [(2,xB a)] [] []
def f20l1:z01:=⟨[2],[],[],[],[]⟩
def f20B:Nat->Option z01:=z1i [(1000000,f20l1)]
abbrev f20j{ρ:Type}(N n:Nat)(σ:St)(l:z01)(K:KT ρ):Option ρ:=z0w f20G tab f20B N (z2o 99 (z1x Tryz.f20) n) .n σ (z1f (some l) K)
def f20t0 N a (K:KT ρ):f20j N 1 (f20s0 a) f20lE K =
 z61.Z0 N a (λb=>K .ret (f20s1 b)):=by kernel_rfl
def f20ok(h:z61.Spec):z0l Tryz.prog 20 e20 :=
 okC Tryz.func20 z2w f20GOk (λN X K=>f20t0 N X.1 K) (by kernel_rfl) λX hb hp=>by
  obtain⟨a,_⟩:=X
  obtain⟨N,h⟩:=h a hb.1
  exact⟨N,Eq.trans (by kernel_rfl) (h N (Nat.le_refl N))⟩
def e20ok:z0l Tryz.prog 20 e20:=f20ok z61.ok
end Go.Fw
namespace Go.Fw
variable {ρ : Type}
open Go.Proofs
def f54k:z9a:=⟨98,[(5,.int .u8)],.pair (.int .i64) (.int .i64)⟩
def f54ps:List PT:=[⟨.sl 5 (.int .u8),false,false⟩]
def e54:z8t:=⟨f54k,f54ps,none,λX=>(z08.g X.1)⟩
def f54G:Gm:=z1v
def f54GOk:GOk Tryz.prog f54G:=GOk.nil
def f54lE:z01:=⟨[],[],[],[],[]⟩
def f54s0(u0:Value)(a:List Int):St:=z9t 5 (.int .u8) (f54ps.drop 1) u0 (a,())
def f54s1(u0:Value)(a:List Int):St:=z1h [(0,.c (.bor u0 5 (.int .u8) a))] [] []
def f54l1:z01:=⟨[0],[],[],[],[]⟩
def zls(u0:Value)(a:List Int)(b:Int):St:=z1h [(0,.c (.bor u0 5 (.int .u8) a)),(3,xi b)] [] []
def f54l2:z01:=⟨[0,3],[],[],[],[]⟩
def f54s3(u0:Value)(a:List Int)(b d:Int):St:=z1h [(0,.c (.bor u0 5 (.int .u8) a)),(3,xi b),(4,xi d)] [] []
def f54l3:z01:=⟨[0,3,4],[],[],[],[]⟩
def f54s4(u0:Value)(a:List Int)(b c:Int):St:=z1h [(2,xb 31)] [(31,(98,[.bor u0 5 (.int .u8) a,yi b,yi c]))] []
def f54l4:z01:=⟨[2],[31],[],[],[]⟩
def f54B:Nat->Option z01:=z1i [(0,f54l2),(1000000,f54l4)]
abbrev f54j{ρ:Type}(N n:Nat)(σ:St)(l:z01)(K:KT ρ):Option ρ:=z0w f54G tab f54B N (z2o 99 (z1x Tryz.f54) n) .n σ (z1f (some l) K)
def f54t1 N u0 a (K:KT ρ):f54j N 2 (f54s0 u0 a) f54l1 K =
 z08.Z1 N a (λa=>K .nrm (f54s1 u0 a)):=by kernel_rfl
def f54t3 N u0 a (K:KT ρ):f54j N 5 (f54s1 u0 a) f54l2 K =
 z08.Z3 N a (λa b=>K .nrm (zls u0 a b)):=by kernel_rfl
def f54t6 N u0 a b (K:KT ρ):f54j N 19 (zls u0 a b) f54l3 K =
 z08.Z6 N a b (λa b c=>K .nrm (f54s3 u0 a b c)):=by kernel_rfl
def f54t9 N u0 a b c (K:KT ρ):f54j N 75 (f54s3 u0 a b c) f54l3 K =
 z08.Z9 N a b c (λa b c=>K .nrm (f54s3 u0 a b c)) (λa b=>K (.exit 0) (zls u0 a b)):=by kernel_rfl
def f54t8L N u0 (K:KT ρ):=lp3 K (z08.Z8L N (λa b=>K (.exit 0) (zls u0 a b))) (λa b c k=>z08.Z9 N a b c k (λa b=>K (.exit 0) (zls u0 a b))) (λF a b c=>f54t9 N u0 a b c _) (by kernel_rfl)
def f54t8 N u0 a b c (K:KT ρ):=vL (f54s3 u0 a b c) (f54t8L N u0 (jK f54l2 K) N a b c) (by kernel_rfl)
def f54t7 N u0 a b c (K:KT ρ):=vB 0 f54l2 K (z08.Z7 N a b c (λa b=>K .nrm (zls u0 a b))) (f54t8 N u0 a b c _) (by kernel_rfl)
def f54t5 N u0 a b (K:KT ρ):=vQ (λk=>z08.Z6 N a b k) (f54t6 N u0 a b _) (fx3 λa b c=>f54t7 N u0 a b c K)
def f54t10 N u0 a b (K:KT ρ):f54j N 15 (zls u0 a b) f54lE K =
 z08.Z10 N a b (λc d e=>K .ret (f54s4 u0 c d e)):=by kernel_rfl
def f54t4 N u0 a b (K:KT ρ):=vQ (λk=>z08.Z5 N a b k) (f54t5 N u0 a b _) (fx2 λa b=>f54t10 N u0 a b K)
def f54t2 N u0 a (K:KT ρ):=vQ (λk=>z08.Z3 N a k) (f54t3 N u0 a _) (fx2 λa b=>f54t4 N u0 a b K)
def f54t0 N u0 a (K:KT ρ):=vQ (λk=>z08.Z1 N a k) (f54t1 N u0 a _) (funext λa=>f54t2 N u0 a K)
def f54ok(h:z08.Spec):z6r Tryz.prog 54 e54 :=
 okN Tryz.func54 z2w f54GOk (λN u X K=>f54t0 N u X.1 K) (by kernel_rfl) λu0 X hb2 hp=>by
  obtain⟨a,_⟩:=X
  obtain⟨N,h⟩:=h [u0] a hb2.1
  exact⟨N,Eq.trans (by kernel_rfl) (h N (Nat.le_refl N))⟩
def e54ok:z6r Tryz.prog 54 e54:=f54ok z08.ok
end Go.Fw
namespace Go.Fw
variable {ρ : Type}
open Go.Proofs
def f133k:z9a:=⟨98,[(5,.int .u8)],.pair (.int .i64) (.int .i64)⟩
def f133ps:List PT:=[]
def f133rs:List PT:=[⟨.int .i64,false,false⟩]
def e133:z42:=⟨f133k,f133ps,true,f133rs,(some λX=>z09.P X.1.1.1 X.1.2),λX=>((z09.g X.1.1.1 X.1.2).1,((),((z09.g X.1.1.1 X.1.2).2,())))⟩
def f133G:Gm:=z1v
def f133GOk:GOk Tryz.prog f133G:=GOk.nil
def f133lE:z01:=⟨[],[],[],[],[]⟩
def f133s0(u0:Value)(b0:List Int)(r0:Int×Int):St:=z33 f133k f133ps [u0] (((b0,()),r0),())
def f133s1(u0:Value)(a:Int)(b:List Int)(c d:Int):St:=z1h [(2,xi a),(100000,xb 100000)] [(100000,(98,[.bor u0 5 (.int .u8) b,yi c,yi d]))] []
def f133l1:z01:=⟨[2,100000],[100000],[],[],[]⟩
def f133B:Nat->Option z01:=z1i [(1000000,f133l1)]
abbrev f133j{ρ:Type}(N n:Nat)(σ:St)(l:z01)(K:KT ρ):Option ρ:=z0w f133G tab f133B N (z2o 99 (z1x Tryz.f133) n) .n σ (z1f (some l) K)
def f133t0 N u0 b0 r0 (K:KT ρ):f133j N 1 (f133s0 u0 b0 r0) f133lE K =
 z09.Z0 N b0 r0 (λa b c d=>K .ret (f133s1 u0 a b c d)):=by kernel_rfl
def f133ok(h:z09.Spec):z24 Tryz.prog 133 e133 :=
 okV Tryz.func133 z2w f133GOk (λN u X K=>f133t0 N u X.1.1.1 X.1.2 K) (by kernel_rfl) λu0 X hb1 hb2 hp=>by
  obtain⟨⟨⟨b0,_⟩,r0⟩,_⟩:=X
  obtain⟨N,h⟩:=h [u0] b0 r0 hb1.1 hp
  exact⟨N,Eq.trans (by kernel_rfl) (h N (Nat.le_refl N))⟩
def e133ok:z24 Tryz.prog 133 e133:=f133ok z09.ok
end Go.Fw
namespace Go.Fw
variable {ρ : Type}
open Go.Proofs
def f96k:z9a:=⟨98,[(5,.int .u8)],.pair (.int .i64) (.int .i64)⟩
def f96ps:List PT:=[⟨.int .i64,false,false⟩]
def f96rs:List PT:=[⟨.int .i64,false,false⟩]
def e96:z42:=⟨f96k,f96ps,true,f96rs,(some λX=>z00.P X.1.1.1 X.1.2 X.2.1),λX=>((z00.g X.1.1.1 X.1.2 X.2.1).1,((),((z00.g X.1.1.1 X.1.2 X.2.1).2,())))⟩
def f96G:Gm:=addV z1v 133 e133
def f96GOk:GOk Tryz.prog f96G:=(GOk.nil).addV e133ok (by kernel_rfl)
def f96lE:z01:=⟨[],[],[],[],[]⟩
def f96s0(u0:Value)(b0:List Int)(r0:Int×Int)(a:Int):St:=z33 f96k f96ps [u0] (((b0,()),r0),(a,()))
def f96s1(u0:Value)(a:Int)(b:List Int)(c d:Int):St:=z1h [(4,xi a),(100000,xb 100000)] [(100000,(98,[.bor u0 5 (.int .u8) b,yi c,yi d]))] []
def f96l1:z01:=⟨[4,100000],[100000],[],[],[]⟩
def f96B:Nat->Option z01:=z1i [(1000000,f96l1)]
abbrev f96j{ρ:Type}(N n:Nat)(σ:St)(l:z01)(K:KT ρ):Option ρ:=z0w f96G tab f96B N (z2o 99 (z1x Tryz.f96) n) .n σ (z1f (some l) K)
def f96t0 N u0 b0 r0 a (K:KT ρ):f96j N 1 (f96s0 u0 b0 r0 a) f96lE K =
 z00.Z0 N b0 r0 a (λb c d e=>K .ret (f96s1 u0 b c d e)):=by kernel_rfl
def f96ok(h:z00.Spec):z24 Tryz.prog 96 e96 :=
 okV Tryz.func96 z2w f96GOk (λN u X K=>f96t0 N u X.1.1.1 X.1.2 X.2.1 K) (by kernel_rfl) λu0 X hb1 hb2 hp=>by
  obtain⟨⟨⟨b0,_⟩,r0⟩,a,_⟩:=X
  obtain⟨N,h⟩:=h [u0] b0 r0 a hb1.1 hp
  exact⟨N,Eq.trans (by kernel_rfl) (h N (Nat.le_refl N))⟩
def zf9:z24 Tryz.prog 96 e96:=f96ok z00.ok
end Go.Fw
namespace Go.Fw
variable {ρ : Type}
open Go.Proofs
def f59k:z9a:=⟨98,[(5,.int .u8)],.pair (.int .i64) (.int .i64)⟩
def f59ps:List PT:=[⟨.int .i64,false,false⟩]
def f59rs:List PT:=[⟨.bool,false,false⟩]
def e59:z42:=⟨f59k,f59ps,true,f59rs,(some λX=>z0i.P X.1.1.1 X.1.2 X.2.1),λX=>((z0i.g X.1.1.1 X.1.2 X.2.1).1,((),((z0i.g X.1.1.1 X.1.2 X.2.1).2,())))⟩
def f59G:Gm:=addV z1v 96 e96
def f59GOk:GOk Tryz.prog f59G:=(GOk.nil).addV zf9 (by kernel_rfl)
def f59lE:z01:=⟨[],[],[],[],[]⟩
def f59s0(u0:Value)(b0:List Int)(r0:Int×Int)(a:Int):St:=z33 f59k f59ps [u0] (((b0,()),r0),(a,()))
def f59s1(u0:Value)(a:Bool)(b:List Int)(c d:Int):St:=z1h [(4,xB a),(100000,xb 100000)] [(100000,(98,[.bor u0 5 (.int .u8) b,yi c,yi d]))] []
def f59l1:z01:=⟨[4,100000],[100000],[],[],[]⟩
def f59B:Nat->Option z01:=z1i [(1000000,f59l1)]
abbrev f59j{ρ:Type}(N n:Nat)(σ:St)(l:z01)(K:KT ρ):Option ρ:=z0w f59G tab f59B N (z2o 99 (z1x Tryz.f59) n) .n σ (z1f (some l) K)
def f59t0 N u0 b0 r0 a (K:KT ρ):f59j N 1 (f59s0 u0 b0 r0 a) f59lE K =
 z0i.Z0 N b0 r0 a (λb c d e=>K .ret (f59s1 u0 b c d e)):=by kernel_rfl
def f59ok(h:z0i.Spec):z24 Tryz.prog 59 e59 :=
 okV Tryz.func59 z2w f59GOk (λN u X K=>f59t0 N u X.1.1.1 X.1.2 X.2.1 K) (by kernel_rfl) λu0 X hb1 hb2 hp=>by
  obtain⟨⟨⟨b0,_⟩,r0⟩,a,_⟩:=X
  obtain⟨N,h⟩:=h [u0] b0 r0 a hb1.1 hp
  exact⟨N,Eq.trans (by kernel_rfl) (h N (Nat.le_refl N))⟩
def e59ok:z24 Tryz.prog 59 e59:=f59ok z0i.ok
end Go.Fw
namespace Go.Fw
variable {ρ : Type}
open Go.Proofs
def zsz:Sig:=⟨[⟨.int .i64,false,false⟩],[⟨.pair (.int .i64) (.pair (.int .i64) (.sl 3 (.int .i64))),true,false⟩]⟩
def e134:z2j:=⟨zsz,(some λX=>z02.P X.1),λX=>((),((z02.g X.1),()))⟩
def f134G:Gm:=z1v
def f134GOk:GOk Tryz.prog f134G:=GOk.nil
def f134lE:z01:=⟨[],[],[],[],[]⟩
def f134s0(a:Int):St:=z2e zsz.ps (a,())
def f134s1(a:LI)(b c:Int):St:=z1h [(2,xb 2)] [(2,(27,[yi b,yi c,.own 20000130]))] [(20000130,(⟨3,.int .i64,a,true,false⟩:Row))]
def f134l1:z01:=⟨[2],[2],[],[],[(⟨true,2,2⟩,20000130)]⟩
def f134B:Nat->Option z01:=z1i [(1000000,f134l1)]
abbrev f134j{ρ:Type}(N n:Nat)(σ:St)(l:z01)(K:KT ρ):Option ρ:=z0w f134G tab f134B N (z2o 99 (z1x Tryz.f134) n) .n σ (z1f (some l) K)
def f134t0 N a (K:KT ρ):f134j N 1 (f134s0 a) f134lE K =
 z02.Z0 N a (λb c d=>K .ret (f134s1 b c d)):=by kernel_rfl
def f134ok(h:z02.Spec):z0l Tryz.prog 134 e134 :=
 okC Tryz.func134 z2w f134GOk (λN X K=>f134t0 N X.1 K) (by kernel_rfl) λX hb hp=>by
  obtain⟨a,_⟩:=X
  obtain⟨N,h⟩:=h a hp
  exact⟨N,Eq.trans (by kernel_rfl) (h N (Nat.le_refl N))⟩
def e134ok:z0l Tryz.prog 134 e134:=f134ok z02.ok
end Go.Fw
namespace Go.Fw
variable {ρ : Type}
open Go.Proofs
def f135k:z9a:=⟨98,[(5,.int .u8)],.pair (.int .i64) (.int .i64)⟩
def f135ps:List PT:=[⟨.pair (.int .i64) (.pair (.int .i64) (.sl 3 (.int .i64))),true,true⟩,⟨.int .i64,false,false⟩,⟨.int .i64,false,false⟩,⟨.int .i64,false,false⟩,⟨.int .i64,false,false⟩]
def f135rs:List PT:=[]
def e135:z42:=⟨f135k,f135ps,true,f135rs,(some λX=>z06.P X.1.1.1 X.1.2 X.2.1 X.2.2.1 X.2.2.2.1 X.2.2.2.2.1 X.2.2.2.2.2.1),λX=>((z06.g X.1.1.1 X.1.2 X.2.1 X.2.2.1 X.2.2.2.1 X.2.2.2.2.1 X.2.2.2.2.2.1).1,((z06.g X.1.1.1 X.1.2 X.2.1 X.2.2.1 X.2.2.2.1 X.2.2.2.2.1 X.2.2.2.2.2.1).2,()))⟩
def f135G:Gm:=addV z1v 59 e59
def f135GOk:GOk Tryz.prog f135G:=(GOk.nil).addV e59ok (by kernel_rfl)
def f135s0(u0:Value)(b0:List Int)(r0:Int×Int)(a:MT)(b c d e:Int):St:=z33 f135k f135ps [u0] (((b0,()),r0),(a,(b,(c,(d,(e,()))))))
def f135s1(u0:Value)(a:LI)(b c:Int)(d:List Int)(e f:Int):St:=z1h [(100000,xb 100000),(100001,.agg [yi b,yi c,.own 7400066])] [(100000,(98,[.bor u0 5 (.int .u8) d,yi e,yi f]))] [(7400066,(⟨3,.int .i64,a,true,false⟩:Row))]
def f135l1:z01:=⟨[100000,100001],[100000],[],[],[(⟨false,100001,2⟩,7400066)]⟩
def f135B:Nat->Option z01:=z1i []
abbrev f135j{ρ:Type}(N n:Nat)(σ:St)(l:z01)(K:KT ρ):Option ρ:=z0w f135G tab f135B N (z2o 99 (z1x Tryz.f135) n) .n σ (z1f (some l) K)
def f135t0 N u0 b0 r0 a b c d e (K:KT ρ):f135j N 1 (f135s0 u0 b0 r0 a b c d e) f135l1 K =
 z06.Z0 N b0 r0 a b c d e (λf g h i j l=>K .nrm (f135s1 u0 f g h i j l)):=by kernel_rfl
def f135ok(h:z06.Spec):z24 Tryz.prog 135 e135 :=
 okV Tryz.func135 z2w f135GOk (λN u X K=>f135t0 N u X.1.1.1 X.1.2 X.2.1 X.2.2.1 X.2.2.2.1 X.2.2.2.2.1 X.2.2.2.2.2.1 K) (by kernel_rfl) λu0 X hb1 hb2 hp=>by
  obtain⟨⟨⟨b0,_⟩,r0⟩,a,b,c,d,e,_⟩:=X
  obtain⟨N,h⟩:=h [u0] b0 r0 a b c d e hb1.1 hb2.1 hp
  exact⟨N,Eq.trans (by kernel_rfl) (h N (Nat.le_refl N))⟩
def e135ok:z24 Tryz.prog 135 e135:=f135ok z06.ok
end Go.Fw
namespace Go.Fw
variable {ρ : Type}
open Go.Proofs
def f97k:z9a:=⟨98,[(5,.int .u8)],.pair (.int .i64) (.int .i64)⟩
def f97ps:List PT:=[]
def f97rs:List PT:=[⟨.pair (.int .i64) (.pair (.int .i64) (.sl 3 (.int .i64))),true,false⟩]
def e97:z42:=⟨f97k,f97ps,true,f97rs,(some λX=>z0e.P X.1.1.1 X.1.2),λX=>((z0e.g X.1.1.1 X.1.2).1,((),((z0e.g X.1.1.1 X.1.2).2,())))⟩
def f97G:Gm:=addV (z3s (addV z1v 96 e96) 134 e134) 135 e135
def f97GOk:GOk Tryz.prog f97G:=(((GOk.nil).addV zf9 (by kernel_rfl)).add e134ok (by kernel_rfl)).addV e135ok (by kernel_rfl)
def f97lE:z01:=⟨[],[],[],[],[]⟩
def f97s0(u0:Value)(b0:List Int)(r0:Int×Int):St:=z33 f97k f97ps [u0] (((b0,()),r0),())
def f97s1(u0:Value)(a:List Int)(b c d e:Int):St:=z1h [(0,xb 100000),(2,xb 2),(100000,xb 100000)] [(100000,(98,[.bor u0 5 (.int .u8) a,yi b,yi c])),(2,(27,[yi d,yi e,.nil]))] []
def f97l1:z01:=⟨[0,2,100000],[100000,2],[],[],[]⟩
def f97s2(u0:Value)(a:LI)(b:List Int)(c d e f g h:Int):St:=z1h [(0,xb 100000),(2,xb 2),(5,xb 5),(100000,xb 100000)] [(100000,(98,[.bor u0 5 (.int .u8) b,yi c,yi d])),(2,(27,[yi e,yi f,.nil])),(5,(27,[yi g,yi h,.own 20000322]))] [(20000322,(⟨3,.int .i64,a,true,false⟩:Row))]
def f97l2:z01:=⟨[0,2,5,100000],[100000,2,5],[],[],[(⟨true,5,2⟩,20000322)]⟩
def zcv(u0:Value)(a:LI)(b:Int)(c:List Int)(d e f g h i:Int):St:=z1h [(0,xb 100000),(2,xb 2),(5,xb 5),(6,xi b),(100000,xb 100000)] [(100000,(98,[.bor u0 5 (.int .u8) c,yi d,yi e])),(2,(27,[yi f,yi g,.nil])),(5,(27,[yi h,yi i,.own 20000322]))] [(20000322,(⟨3,.int .i64,a,true,false⟩:Row))]
def zjv:z01:=⟨[0,2,5,6,100000],[100000,2,5],[],[],[(⟨true,5,2⟩,20000322)]⟩
def f97s4(u0:Value)(a:LI)(b c:Int)(d:List Int)(e f g h i j:Int):St:=z1h [(0,xb 100000),(2,xb 2),(5,xb 5),(6,xi b),(7,xi c),(100000,xb 100000)] [(100000,(98,[.bor u0 5 (.int .u8) d,yi e,yi f])),(2,(27,[yi g,yi h,.nil])),(5,(27,[yi i,yi j,.own 20000322]))] [(20000322,(⟨3,.int .i64,a,true,false⟩:Row))]
def f97l4:z01:=⟨[0,2,5,6,7,100000],[100000,2,5],[],[],[(⟨true,5,2⟩,20000322)]⟩
def zpe(u0:Value)(a:LI)(b c d e:Int)(f:List Int)(g h:Int):St:=z1h [(2,xb 2),(5,xb 5),(100000,xb 100000)] [(2,(27,[yi b,yi c,.nil])),(5,(27,[yi d,yi e,.own 20000322])),(100000,(98,[.bor u0 5 (.int .u8) f,yi g,yi h]))] [(20000322,(⟨3,.int .i64,a,true,false⟩:Row))]
def f97l5:z01:=⟨[2,5,100000],[2,5,100000],[],[],[(⟨true,5,2⟩,20000322)]⟩
def f97s6(u0:Value)(a:LI)(b c:Int)(d:List Int)(e f:Int):St:=z1h [(2,xb 2),(100000,xb 100000)] [(2,(27,[yi b,yi c,.own 20000130])),(100000,(98,[.bor u0 5 (.int .u8) d,yi e,yi f]))] [(20000130,(⟨3,.int .i64,a,true,false⟩:Row))]
def f97l6:z01:=⟨[2,100000],[2,100000],[],[],[(⟨true,2,2⟩,20000130)]⟩
def f97B:Nat->Option z01:=z1i [(3,zjv),(2,zjv),(1,f97l5),(1000000,f97l6)]
abbrev f97j{ρ:Type}(N n:Nat)(σ:St)(l:z01)(K:KT ρ):Option ρ:=z0w f97G tab f97B N (z2o 99 (z1x Tryz.f97) n) .n σ (z1f (some l) K)
def f97t1 N u0 b0 r0 (K:KT ρ):f97j N 2 (f97s0 u0 b0 r0) f97l1 K =
 z0e.Z1 N b0 r0 (λa b c d e=>K .nrm (f97s1 u0 a b c d e)):=by kernel_rfl
def f97t3 N u0 a b c d e (K:KT ρ):f97j N 5 (f97s1 u0 a b c d e) f97l1 K =
 z0e.Z3 N a b c d e (λa b c d e=>K .nrm (f97s1 u0 a b c d e)) (λf d e a b c=>K .ret (f97s6 u0 f d e a b c)):=by kernel_rfl
def f97t5 N u0 a b c d e (K:KT ρ):f97j N 11 (f97s1 u0 a b c d e) f97l2 K =
 z0e.Z5 N a b c d e (λf a b c d e g h=>K .nrm (f97s2 u0 f a b c d e g h)):=by kernel_rfl
def f97t8 N u0 a b c d e f g h (K:KT ρ):f97j N 39 (f97s2 u0 a b c d e f g h) zjv K =
 z0e.Z8 N a b c d e f g h (λa i b c d e f g h=>K .nrm (zcv u0 a i b c d e f g h)):=by kernel_rfl
def f97t12 N u0 a i b c d e f g h (K:KT ρ):f97j N 279 (zcv u0 a i b c d e f g h) zjv K =
 z0e.Z12 N a i b c d e f g h (λa i b c d e f g h=>K .nrm (zcv u0 a i b c d e f g h)) (λa e f g h b c d=>K (.exit 1) (zpe u0 a e f g h b c d)):=by kernel_rfl
def f97t16 N u0 a b c d e f g h i (K:KT ρ):f97j N 2199 (zcv u0 a b c d e f g h i) f97l4 K =
 z0e.Z16 N a b c d e f g h i (λa b j c d e f g h i=>K .nrm (f97s4 u0 a b j c d e f g h i)):=by kernel_rfl
def f97t19 N u0 a b j c d e f g h i (K:KT ρ):f97j N 9367 (f97s4 u0 a b j c d e f g h i) f97l4 K =
 z0e.Z19 N a b j c d e f g h i (λa b j c d e f g h i=>K .nrm (f97s4 u0 a b j c d e f g h i)) (λa b c d e f g h i=>K (.exit 3) (zcv u0 a b c d e f g h i)):=by kernel_rfl
def f97t18L N u0 (K:KT ρ):=lp10 K (z0e.Z18L N (λa b c d e f g h i=>K (.exit 3) (zcv u0 a b c d e f g h i))) (λa b j c d e f g h i k=>z0e.Z19 N a b j c d e f g h i k (λa b c d e f g h i=>K (.exit 3) (zcv u0 a b c d e f g h i))) (λF a b j c d e f g h i=>f97t19 N u0 a b j c d e f g h i _) (by kernel_rfl)
def f97t18 N u0 a b c d e f g h i j (K:KT ρ):=vL (f97s4 u0 a b c d e f g h i j) (f97t18L N u0 (jK zjv K) N a b c d e f g h i j) (by kernel_rfl)
def f97t17 N u0 a b j c d e f g h i (K:KT ρ):=vB 3 zjv K (z0e.Z17 N a b j c d e f g h i (λa b c d e f g h i=>K .nrm (zcv u0 a b c d e f g h i))) (f97t18 N u0 a b j c d e f g h i _) (by kernel_rfl)
def f97t15 N u0 a b c d e f g h i (K:KT ρ):=vQ (λk=>z0e.Z16 N a b c d e f g h i k) (f97t16 N u0 a b c d e f g h i _) (zf1 λa b j c d e f g h i=>f97t17 N u0 a b j c d e f g h i K)
def f97t14 N u0 a b c d e f g h i (K:KT ρ):=vB 2 zjv K (z0e.Z14 N a b c d e f g h i (λa b c d e f g h i=>K .nrm (zcv u0 a b c d e f g h i))) (f97t15 N u0 a b c d e f g h i _) (by kernel_rfl)
def f97t20 N u0 a b c d e f g h i (K:KT ρ):f97j N 919 (zcv u0 a b c d e f g h i) zjv K =
 z0e.Z20 N a b c d e f g h i (λa b c d e f g h i=>K .nrm (zcv u0 a b c d e f g h i)):=by kernel_rfl
def f97t13 N u0 a b c d e f g h i (K:KT ρ):=vQ (λk=>z0e.Z14 N a b c d e f g h i k) (f97t14 N u0 a b c d e f g h i _) (fx9 λa b c d e f g h i=>f97t20 N u0 a b c d e f g h i K)
def f97t11 N u0 a i b c d e f g h (K:KT ρ):=vQ (λk=>z0e.Z12 N a i b c d e f g h k (λa e f g h b c d=>K (.exit 1) (zpe u0 a e f g h b c d))) (f97t12 N u0 a i b c d e f g h _) (fx9 λa i b c d e f g h=>f97t13 N u0 a i b c d e f g h K)
def f97t10L N u0 (K:KT ρ):=lp9 K (z0e.Z10L N (λa b c d e f g h=>K (.exit 1) (zpe u0 a b c d e f g h))) (λa i f g h b c d e k=>z0e.Z11 N a i f g h b c d e k (λa b c d e f g h=>K (.exit 1) (zpe u0 a b c d e f g h))) (λF a i f g h b c d e=>f97t11 N u0 a i f g h b c d e _) (by kernel_rfl)
def f97t10 N u0 a b c d e f g h i (K:KT ρ):=vL (zcv u0 a b c d e f g h i) (f97t10L N u0 (jK f97l5 K) N a b c d e f g h i) (by kernel_rfl)
def f97t9 N u0 a i b c d e f g h (K:KT ρ):=vB 1 f97l5 K (z0e.Z9 N a i b c d e f g h (λa e f g h b c d=>K .nrm (zpe u0 a e f g h b c d))) (f97t10 N u0 a i b c d e f g h _) (by kernel_rfl)
def f97t7 N u0 a b c d e f g h (K:KT ρ):=vQ (λk=>z0e.Z8 N a b c d e f g h k) (f97t8 N u0 a b c d e f g h _) (fx9 λa i b c d e f g h=>f97t9 N u0 a i b c d e f g h K)
def f97t21 N u0 f a b g h c d e (K:KT ρ):f97j N 31 (zpe u0 f a b g h c d e) f97lE K =
 z0e.Z21 N f a b g h c d e (λi a b c d e=>K .ret (f97s6 u0 i a b c d e)):=by kernel_rfl
def f97t6 N u0 a b c d e f g h (K:KT ρ):=vQ (λk=>z0e.Z7 N a b c d e f g h k) (f97t7 N u0 a b c d e f g h _) (fx8 λa e f g h b c d=>f97t21 N u0 a e f g h b c d K)
def f97t4 N u0 a b c d e (K:KT ρ):=vQ (λk=>z0e.Z5 N a b c d e k) (f97t5 N u0 a b c d e _) (fx8 λf a b c d e g h=>f97t6 N u0 f a b c d e g h K)
def f97t2 N u0 a b c d e (K:KT ρ):=vQ (λk=>z0e.Z3 N a b c d e k (λf d e a b c=>K .ret (f97s6 u0 f d e a b c))) (f97t3 N u0 a b c d e _) (fx5 λa b c d e=>f97t4 N u0 a b c d e K)
def f97t0 N u0 b0 r0 (K:KT ρ):=vQ (λk=>z0e.Z1 N b0 r0 k) (f97t1 N u0 b0 r0 _) (fx5 λa b c d e=>f97t2 N u0 a b c d e K)
def f97ok(h:z0e.Spec):z24 Tryz.prog 97 e97 :=
 okV Tryz.func97 z2w f97GOk (λN u X K=>f97t0 N u X.1.1.1 X.1.2 K) (by kernel_rfl) λu0 X hb1 hb2 hp=>by
  obtain⟨⟨⟨b0,_⟩,r0⟩,_⟩:=X
  obtain⟨N,h⟩:=h [u0] b0 r0 hb1.1 hp
  exact⟨N,Eq.trans (by kernel_rfl) (h N (Nat.le_refl N))⟩
def e97ok:z24 Tryz.prog 97 e97:=f97ok z0e.ok
end Go.Fw
namespace Go.Fw
variable {ρ : Type}
open Go.Proofs
def zt9:Sig:=⟨[⟨.int .i64,false,false⟩],[⟨.str,false,false⟩]⟩
def e108:z2j:=⟨zt9,(some λX=>z0a.P X.1),λX=>((),((z0a.g X.1),()))⟩
def f108G:Gm:=z1v
def f108GOk:GOk Tryz.prog f108G:=GOk.nil
def f108lE:z01:=⟨[],[],[],[],[]⟩
def f108s0(a:Int):St:=z2e zt9.ps (a,())
def f108s1(a:Int):St:=z1h [(0,xi a)] [] []
def f108l1:z01:=⟨[0],[],[],[],[]⟩
def zee(a:List Int)(b:Int):St:=z1h [(0,xi b),(3,xo 1000192)] [] [(1000192,(⟨5,.int .u8,a,true,false⟩:Row))]
def zny:z01:=⟨[0,3],[],[],[],[(⟨false,3,0⟩,1000192)]⟩
def znx(a:List Int)(b c:Int):St:=z1h [(0,xi b),(3,xo 1000192),(4,xi c)] [] [(1000192,(⟨5,.int .u8,a,true,false⟩:Row))]
def f108l3:z01:=⟨[0,3,4],[],[],[],[(⟨false,3,0⟩,1000192)]⟩
def f108s4(a b:List Int)(c:Int):St:=z1h [(0,xi c),(3,xo 1000192),(6,xo 1000384)] [] [(1000192,(⟨5,.int .u8,a,true,false⟩:Row)),(1000384,(⟨5,.int .u8,b,true,false⟩:Row))]
def f108l4:z01:=⟨[0,3,6],[],[],[],[(⟨false,3,0⟩,1000192),(⟨false,6,0⟩,1000384)]⟩
def f108s5(a b:List Int):St:=z1h [(3,xo 1000192),(6,xo 1000384)] [] [(1000192,(⟨5,.int .u8,a,true,false⟩:Row)),(1000384,(⟨5,.int .u8,b,true,false⟩:Row))]
def f108l5:z01:=⟨[3,6],[],[],[],[(⟨false,3,0⟩,1000192),(⟨false,6,0⟩,1000384)]⟩
def znw(a b:List Int)(c:Int):St:=z1h [(3,xo 1000192),(6,xo 1000384),(7,xi c)] [] [(1000192,(⟨5,.int .u8,a,true,false⟩:Row)),(1000384,(⟨5,.int .u8,b,true,false⟩:Row))]
def f108l6:z01:=⟨[3,6,7],[],[],[],[(⟨false,3,0⟩,1000192),(⟨false,6,0⟩,1000384)]⟩
def zkd(a:List Int):St:=z1h [(6,xo 1000384)] [] [(1000384,(⟨5,.int .u8,a,true,false⟩:Row))]
def zta:z01:=⟨[6],[],[],[],[(⟨false,6,0⟩,1000384)]⟩
def f108s8(a:ByteArray):St:=z1h [(2,.c (.str a))] [] []
def f108l8:z01:=⟨[2],[],[],[],[]⟩
def f108B:Nat->Option z01:=z1i [(0,zny),(2,zta),(1000000,f108l8)]
abbrev zho{ρ:Type}(N n:Nat)(σ:St)(l:z01)(K:KT ρ):Option ρ:=z0w f108G tab f108B N (z2o 99 (z1x Tryz.f108) n) .n σ (z1f (some l) K)
def f108t1 N a (K:KT ρ):zho N 2 (f108s0 a) f108l1 K =
 z0a.Z1 N a (λa=>K .nrm (f108s1 a)):=by kernel_rfl
def f108t3 N a (K:KT ρ):zho N 5 (f108s1 a) zny K =
 z0a.Z3 N a (λb a=>K .nrm (zee b a)):=by kernel_rfl
def f108t5 N a b (K:KT ρ):zho N 11 (zee a b) f108l3 K =
 z0a.Z5 N a b (λa b c=>K .nrm (znx a b c)):=by kernel_rfl
def f108t9 N a b c (K:KT ρ):zho N 71 (znx a b c) f108l3 K =
 z0a.Z9 N a b c (λa b c=>K .nrm (znx a b c)) (λa b=>K (.exit 0) (zee a b)):=by kernel_rfl
def f108t8L N (K:KT ρ):=lp3 K (z0a.Z8L N (λa b=>K (.exit 0) (zee a b))) (λa b c k=>z0a.Z9 N a b c k (λa b=>K (.exit 0) (zee a b))) (λF a b c=>f108t9 N a b c _) (by kernel_rfl)
def f108t8 N a b c (K:KT ρ):=vL (znx a b c) (f108t8L N (jK zny K) N a b c) (by kernel_rfl)
def f108t7 N a b c (K:KT ρ):=vB 0 zny K (z0a.Z7 N a b c (λa b=>K .nrm (zee a b))) (f108t8 N a b c _) (by kernel_rfl)
def f108t11 N a b (K:KT ρ):zho N 47 (zee a b) f108l4 K =
 z0a.Z11 N a b (λa c b=>K .nrm (f108s4 a c b)):=by kernel_rfl
def f108t13 N a b c (K:KT ρ):zho N 95 (f108s4 a b c) f108l5 K =
 z0a.Z13 N a b c (λa b=>K .nrm (f108s5 a b)):=by kernel_rfl
def f108t16 N a b (K:KT ρ):zho N 319 (f108s5 a b) f108l6 K =
 z0a.Z16 N a b (λa b c=>K .nrm (znw a b c)):=by kernel_rfl
def f108t19 N b a c (K:KT ρ):zho N 1215 (znw b a c) f108l6 K =
 z0a.Z19 N b a c (λb a c=>K .nrm (znw b a c)) (λa=>K (.exit 2) (zkd a)):=by kernel_rfl
def f108t18L N (K:KT ρ):=lp3 K (z0a.Z18L N (λa=>K (.exit 2) (zkd a))) (λb a c k=>z0a.Z19 N b a c k (λa=>K (.exit 2) (zkd a))) (λF b a c=>f108t19 N b a c _) (by kernel_rfl)
def f108t18 N a b c (K:KT ρ):=vL (znw a b c) (f108t18L N (jK zta K) N a b c) (by kernel_rfl)
def f108t17 N b a c (K:KT ρ):=vB 2 zta K (z0a.Z17 N b a c (λa=>K .nrm (zkd a))) (f108t18 N b a c _) (by kernel_rfl)
def f108t15 N a b (K:KT ρ):=vQ (λk=>z0a.Z16 N a b k) (f108t16 N a b _) (fx3 λa b c=>f108t17 N a b c K)
def f108t20 N a (K:KT ρ):zho N 255 (zkd a) f108lE K =
 z0a.Z20 N a (λb=>K .ret (f108s8 b)):=by kernel_rfl
def f108t14 N b a (K:KT ρ):=vQ (λk=>z0a.Z15 N b a k) (f108t15 N b a _) (funext λa=>f108t20 N a K)
def f108t12 N a b c (K:KT ρ):=vQ (λk=>z0a.Z13 N a b c k) (f108t13 N a b c _) (fx2 λa b=>f108t14 N a b K)
def f108t10 N a b (K:KT ρ):=vQ (λk=>z0a.Z11 N a b k) (f108t11 N a b _) (fx3 λa c b=>f108t12 N a c b K)
def f108t6 N a b c (K:KT ρ):=vQ (λk=>z0a.Z7 N a b c k) (f108t7 N a b c _) (fx2 λa b=>f108t10 N a b K)
def f108t4 N a b (K:KT ρ):=vQ (λk=>z0a.Z5 N a b k) (f108t5 N a b _) (fx3 λa b c=>f108t6 N a b c K)
def f108t2 N a (K:KT ρ):=vQ (λk=>z0a.Z3 N a k) (f108t3 N a _) (fx2 λb a=>f108t4 N b a K)
def f108t0 N a (K:KT ρ):=vQ (λk=>z0a.Z1 N a k) (f108t1 N a _) (funext λa=>f108t2 N a K)
def f108ok(h:z0a.Spec):z0l Tryz.prog 108 e108 :=
 okC Tryz.func108 z2w f108GOk (λN X K=>f108t0 N X.1 K) (by kernel_rfl) λX hb hp=>by
  obtain⟨a,_⟩:=X
  obtain⟨N,h⟩:=h a hp
  exact⟨N,Eq.trans (by kernel_rfl) (h N (Nat.le_refl N))⟩
def e108ok:z0l Tryz.prog 108 e108:=f108ok z0a.ok
end Go.Fw
namespace Go.Fw
variable {ρ : Type}
open Go.Proofs
def f117k:z9a:=⟨98,[(5,.int .u8)],.pair (.int .i64) (.int .i64)⟩
def f117ps:List PT:=[⟨.int .i64,false,false⟩]
def f117rs:List PT:=[⟨.pair (.int .i64) (.pair (.int .i64) (.sl 3 (.int .i64))),true,false⟩,⟨.str,false,false⟩]
def e117:z42:=⟨f117k,f117ps,true,f117rs,(some λX=>spec_dTree.P X.1.1.1 X.1.2 X.2.1),λX=>((spec_dTree.g X.1.1.1 X.1.2 X.2.1).1,((),((spec_dTree.g X.1.1.1 X.1.2 X.2.1).2.1,((spec_dTree.g X.1.1.1 X.1.2 X.2.1).2.2,()))))⟩
def f117G:Gm:=addV (z3s (z3s (addV z1v 96 e96) 108 e108) 134 e134) 135 e135
def f117GOk:GOk Tryz.prog f117G:=((((GOk.nil).addV zf9 (by kernel_rfl)).add e108ok (by kernel_rfl)).add e134ok (by kernel_rfl)).addV e135ok (by kernel_rfl)
def f117lE:z01:=⟨[],[],[],[],[]⟩
def f117s0(u0:Value)(b0:List Int)(r0:Int×Int)(a:Int):St:=z33 f117k f117ps [u0] (((b0,()),r0),(a,()))
def f117s1(u0:Value)(a:Int)(b:List Int)(c d e f:Int):St:=z1h [(0,xb 100000),(1,xi a),(4,xb 4),(100000,xb 100000)] [(100000,(98,[.bor u0 5 (.int .u8) b,yi c,yi d])),(4,(27,[yi e,yi f,.nil]))] []
def f117l1:z01:=⟨[0,1,4,100000],[100000,4],[],[],[]⟩
def f117s2(u0:Value)(a b:Int)(c:List Int)(d e f g:Int):St:=z1h [(0,xb 100000),(1,xi a),(4,xb 4),(6,xi b),(100000,xb 100000)] [(100000,(98,[.bor u0 5 (.int .u8) c,yi d,yi e])),(4,(27,[yi f,yi g,.nil]))] []
def f117l2:z01:=⟨[0,1,4,6,100000],[100000,4],[],[],[]⟩
def znu(u0:Value)(a b c:Int)(d:List Int)(e f g h:Int):St:=z1h [(0,xb 100000),(1,xi a),(4,xb 4),(6,xi b),(7,xi c),(100000,xb 100000)] [(100000,(98,[.bor u0 5 (.int .u8) d,yi e,yi f])),(4,(27,[yi g,yi h,.nil]))] []
def f117l3:z01:=⟨[0,1,4,6,7,100000],[100000,4],[],[],[]⟩
def f117s4(u0:Value)(a b:Int)(c:List Int)(d e f g:Int):St:=z1h [(0,xb 100000),(4,xb 4),(6,xi a),(7,xi b),(100000,xb 100000)] [(100000,(98,[.bor u0 5 (.int .u8) c,yi d,yi e])),(4,(27,[yi f,yi g,.nil]))] []
def f117l4:z01:=⟨[0,4,6,7,100000],[100000,4],[],[],[]⟩
def f117s5(u0:Value)(a b c:Int)(d:List Int)(e f g h:Int):St:=z1h [(0,xb 100000),(4,xb 4),(6,xi a),(7,xi b),(64,xi c),(100000,xb 100000)] [(100000,(98,[.bor u0 5 (.int .u8) d,yi e,yi f])),(4,(27,[yi g,yi h,.nil]))] []
def f117l5:z01:=⟨[0,4,6,7,64,100000],[100000,4],[],[],[]⟩
def zt4(u0:Value)(a b c:Int)(d:Bool)(e:List Int)(f g h i:Int):St:=z1h [(0,xb 100000),(4,xb 4),(6,xi a),(7,xi b),(64,xi c),(65,xB d),(100000,xb 100000)] [(100000,(98,[.bor u0 5 (.int .u8) e,yi f,yi g])),(4,(27,[yi h,yi i,.nil]))] []
def f117l6:z01:=⟨[0,4,6,7,64,65,100000],[100000,4],[],[],[]⟩
def zeb(u0:Value)(a:LI)(b c:Int)(d:List Int)(e f g h i j:Int):St:=z1h [(0,xb 100000),(4,xb 4),(6,xi b),(7,xi c),(8,xb 8),(100000,xb 100000)] [(100000,(98,[.bor u0 5 (.int .u8) d,yi e,yi f])),(4,(27,[yi g,yi h,.nil])),(8,(27,[yi i,yi j,.own 20000514]))] [(20000514,(⟨3,.int .i64,a,true,false⟩:Row))]
def znv:z01:=⟨[0,4,6,7,8,100000],[100000,4,8],[],[],[(⟨true,8,2⟩,20000514)]⟩
def znt(u0:Value)(a:LI)(b c d:Int)(e:List Int)(f g h i j l:Int):St:=z1h [(0,xb 100000),(4,xb 4),(6,xi b),(7,xi c),(8,xb 8),(9,xi d),(100000,xb 100000)] [(100000,(98,[.bor u0 5 (.int .u8) e,yi f,yi g])),(4,(27,[yi h,yi i,.nil])),(8,(27,[yi j,yi l,.own 20000514]))] [(20000514,(⟨3,.int .i64,a,true,false⟩:Row))]
def f117l8:z01:=⟨[0,4,6,7,8,9,100000],[100000,4,8],[],[],[(⟨true,8,2⟩,20000514)]⟩
def zt3(u0:Value)(a b:Int)(c:Bool)(d:List Int)(e f g h:Int):St:=z1h [(0,xb 100000),(4,xb 4),(7,xi a),(64,xi b),(110,xB c),(100000,xb 100000)] [(100000,(98,[.bor u0 5 (.int .u8) d,yi e,yi f])),(4,(27,[yi g,yi h,.nil]))] []
def f117l9:z01:=⟨[0,4,7,64,110,100000],[100000,4],[],[],[]⟩
def zlv(u0:Value)(a b:Int)(c:Bool)(d:List Int)(e f g h:Int):St:=z1h [(0,xb 100000),(4,xb 4),(7,xi a),(64,xi b),(119,xB c),(100000,xb 100000)] [(100000,(98,[.bor u0 5 (.int .u8) d,yi e,yi f])),(4,(27,[yi g,yi h,.nil]))] []
def f117l10:z01:=⟨[0,4,7,64,119,100000],[100000,4],[],[],[]⟩
def zlu(u0:Value)(a b:Int)(c:Bool)(d:List Int)(e f g h:Int):St:=z1h [(0,xb 100000),(4,xb 4),(7,xi a),(64,xi b),(126,xB c),(100000,xb 100000)] [(100000,(98,[.bor u0 5 (.int .u8) d,yi e,yi f])),(4,(27,[yi g,yi h,.nil]))] []
def f117l11:z01:=⟨[0,4,7,64,126,100000],[100000,4],[],[],[]⟩
def zt6(u0:Value)(a:LI)(b:List Int)(c d e f g h:Int):St:=z1h [(0,xb 100000),(4,xb 4),(12,xb 12),(100000,xb 100000)] [(100000,(98,[.bor u0 5 (.int .u8) b,yi c,yi d])),(4,(27,[yi e,yi f,.nil])),(12,(27,[yi g,yi h,.own 20000770]))] [(20000770,(⟨3,.int .i64,a,true,false⟩:Row))]
def f117l12:z01:=⟨[0,4,12,100000],[100000,4,12],[],[],[(⟨true,12,2⟩,20000770)]⟩
def zhn(u0:Value)(a:LI)(b:Int)(c:List Int)(d e f g h i:Int):St:=z1h [(0,xb 100000),(4,xb 4),(12,xb 12),(13,xi b),(100000,xb 100000)] [(100000,(98,[.bor u0 5 (.int .u8) c,yi d,yi e])),(4,(27,[yi f,yi g,.nil])),(12,(27,[yi h,yi i,.own 20000770]))] [(20000770,(⟨3,.int .i64,a,true,false⟩:Row))]
def zt8:z01:=⟨[0,4,12,13,100000],[100000,4,12],[],[],[(⟨true,12,2⟩,20000770)]⟩
def zed(u0:Value)(a:LI)(b c d e:Int)(f:List Int)(g h:Int):St:=z1h [(4,xb 4),(12,xb 12),(100000,xb 100000)] [(4,(27,[yi b,yi c,.nil])),(12,(27,[yi d,yi e,.own 20000770])),(100000,(98,[.bor u0 5 (.int .u8) f,yi g,yi h]))] [(20000770,(⟨3,.int .i64,a,true,false⟩:Row))]
def zlx:z01:=⟨[4,12,100000],[4,12,100000],[],[],[(⟨true,12,2⟩,20000770)]⟩
def zlt(u0:Value)(a:Int)(b:List Int)(c d e f:Int):St:=z1h [(0,xb 100000),(4,xb 4),(7,xi a),(100000,xb 100000)] [(100000,(98,[.bor u0 5 (.int .u8) b,yi c,yi d])),(4,(27,[yi e,yi f,.nil]))] []
def z9y:z01:=⟨[0,4,7,100000],[100000,4],[],[],[]⟩
def zt5(u0:Value)(a:LI)(b:Int)(c:List Int)(d e f g h i:Int):St:=z1h [(0,xb 100000),(4,xb 4),(7,xi b),(16,xb 16),(100000,xb 100000)] [(100000,(98,[.bor u0 5 (.int .u8) c,yi d,yi e])),(4,(27,[yi f,yi g,.nil])),(16,(27,[yi h,yi i,.own 20001026]))] [(20001026,(⟨3,.int .i64,a,true,false⟩:Row))]
def f117l16:z01:=⟨[0,4,7,16,100000],[100000,4,16],[],[],[(⟨true,16,2⟩,20001026)]⟩
def zhm(u0:Value)(a:LI)(b c:Int)(d:List Int)(e f g h i j:Int):St:=z1h [(0,xb 100000),(4,xb 4),(7,xi b),(16,xb 16),(17,xi c),(100000,xb 100000)] [(100000,(98,[.bor u0 5 (.int .u8) d,yi e,yi f])),(4,(27,[yi g,yi h,.nil])),(16,(27,[yi i,yi j,.own 20001026]))] [(20001026,(⟨3,.int .i64,a,true,false⟩:Row))]
def zt7:z01:=⟨[0,4,7,16,17,100000],[100000,4,16],[],[],[(⟨true,16,2⟩,20001026)]⟩
def zec(u0:Value)(a:LI)(b c d e f:Int)(g:List Int)(h i:Int):St:=z1h [(4,xb 4),(7,xi b),(16,xb 16),(100000,xb 100000)] [(4,(27,[yi c,yi d,.nil])),(16,(27,[yi e,yi f,.own 20001026])),(100000,(98,[.bor u0 5 (.int .u8) g,yi h,yi i]))] [(20001026,(⟨3,.int .i64,a,true,false⟩:Row))]
def zlw:z01:=⟨[4,7,16,100000],[4,16,100000],[],[],[(⟨true,16,2⟩,20001026)]⟩
def z8j(u0:Value)(a:LI)(b:ByteArray)(d e:Int)(f:List Int)(g h:Int):St:=z1h [(4,xb 4),(5,.c (.str b)),(100000,xb 100000)] [(4,(27,[yi d,yi e,.own 20000258])),(100000,(98,[.bor u0 5 (.int .u8) f,yi g,yi h]))] [(20000258,(⟨3,.int .i64,a,true,false⟩:Row))]
def f117l19:z01:=⟨[4,5,100000],[4,100000],[],[],[(⟨true,4,2⟩,20000258)]⟩
def f117B:Nat->Option z01:=z1i [(1,znv),(3,zlx),(0,z9y),(5,zlw),(1000000,f117l19)]
abbrev z5t{ρ:Type}(N n:Nat)(σ:St)(l:z01)(K:KT ρ):Option ρ:=z0w f117G tab f117B N (z2o 99 (z1x Tryz.f117) n) .n σ (z1f (some l) K)
def f117t1 N u0 b0 r0 a (K:KT ρ):z5t N 2 (f117s0 u0 b0 r0 a) f117l1 K =
 spec_dTree.Z1 N b0 r0 a (λa b c d e f=>K .nrm (f117s1 u0 a b c d e f)):=by kernel_rfl
def f117t3 N u0 a b c d e f (K:KT ρ):z5t N 5 (f117s1 u0 a b c d e f) f117l2 K =
 spec_dTree.Z3 N a b c d e f (λa g b c d e f=>K .nrm (f117s2 u0 a g b c d e f)):=by kernel_rfl
def f117t5 N u0 a b c d e f g (K:KT ρ):z5t N 11 (f117s2 u0 a b c d e f g) f117l3 K =
 spec_dTree.Z5 N a b c d e f g (λa b h c d e f g=>K .nrm (znu u0 a b h c d e f g)):=by kernel_rfl
def f117t7 N u0 a b c d e f g h (K:KT ρ):z5t N 23 (znu u0 a b c d e f g h) f117l3 K =
 spec_dTree.Z7 N a b c d e f g h (λa b c d e f g h=>K .nrm (znu u0 a b c d e f g h)):=by kernel_rfl
def f117t9 N u0 h a b c d e f g (K:KT ρ):z5t N 47 (znu u0 h a b c d e f g) f117l4 K =
 spec_dTree.Z9 N h a b c d e f g (λa b c d e f g=>K .nrm (f117s4 u0 a b c d e f g)):=by kernel_rfl
def f117t12 N u0 a b c d e f g (K:KT ρ):z5t N 159 (f117s4 u0 a b c d e f g) f117l5 K =
 spec_dTree.Z12 N a b c d e f g (λa b h c d e f g=>K .nrm (f117s5 u0 a b h c d e f g)):=by kernel_rfl
def f117t15 N u0 a b c d e f g h (K:KT ρ):z5t N 607 (f117s5 u0 a b c d e f g h) f117l6 K =
 spec_dTree.Z15 N a b c d e f g h (λa b c i d e f g h=>K .nrm (zt4 u0 a b c i d e f g h)):=by kernel_rfl
def f117t18 N u0 a b h i c d e f g (K:KT ρ):z5t N 2399 (zt4 u0 a b h i c d e f g) znv K =
 spec_dTree.Z18 N a b h i c d e f g (λj a b c d e f g l m=>K .nrm (zeb u0 j a b c d e f g l m)):=by kernel_rfl
def f117t21 N u0 a b c d e f g h i j (K:KT ρ):z5t N 9567 (zeb u0 a b c d e f g h i j) f117l8 K =
 spec_dTree.Z21 N a b c d e f g h i j (λa b c l d e f g h i j=>K .nrm (znt u0 a b c l d e f g h i j)):=by kernel_rfl
def f117t24 N u0 a b c l d e f g h i j (K:KT ρ):z5t N 38239 (znt u0 a b c l d e f g h i j) f117l8 K =
 spec_dTree.Z24 N a b c l d e f g h i j (λa b c l d e f g h i j=>K .nrm (znt u0 a b c l d e f g h i j)) (λa b c d e f g h i j=>K (.exit 1) (zeb u0 a b c d e f g h i j)):=by kernel_rfl
def f117t23L N u0 (K:KT ρ):=lp11 K (spec_dTree.Z23L N (λa b c d e f g h i j=>K (.exit 1) (zeb u0 a b c d e f g h i j))) (λa b c l d e f g h i j k=>spec_dTree.Z24 N a b c l d e f g h i j k (λa b c d e f g h i j=>K (.exit 1) (zeb u0 a b c d e f g h i j))) (λF a b c l d e f g h i j=>f117t24 N u0 a b c l d e f g h i j _) (by kernel_rfl)
def f117t23 N u0 a b c d e f g h i j l (K:KT ρ):=vL (znt u0 a b c d e f g h i j l) (f117t23L N u0 (jK znv K) N a b c d e f g h i j l) (by kernel_rfl)
def f117t22 N u0 a b c l d e f g h i j (K:KT ρ):=vB 1 znv K (spec_dTree.Z22 N a b c l d e f g h i j (λa b c d e f g h i j=>K .nrm (zeb u0 a b c d e f g h i j))) (f117t23 N u0 a b c l d e f g h i j _) (by kernel_rfl)
def f117t20 N u0 a b c d e f g h i j (K:KT ρ):=vQ (λk=>spec_dTree.Z21 N a b c d e f g h i j k) (f117t21 N u0 a b c d e f g h i j _) (zq7 λa b c l d e f g h i j=>f117t22 N u0 a b c l d e f g h i j K)
def f117t25 N u0 f g h a b c d e i j (K:KT ρ):z5t N 7519 (zeb u0 f g h a b c d e i j) z9y K =
 spec_dTree.Z25 N f g h a b c d e i j (λl m d e a b c=>K .ret (z8j u0 l m d e a b c)):=by kernel_rfl
def f117t19 N u0 a b c d e f g h i j (K:KT ρ):=vQ (λk=>spec_dTree.Z20 N a b c d e f g h i j k) (f117t20 N u0 a b c d e f g h i j _) (zf1 λa b c d e f g h i j=>f117t25 N u0 a b c d e f g h i j K)
def f117t17 N u0 a b h i c d e f g (K:KT ρ):=vQ (λk=>spec_dTree.Z18 N a b h i c d e f g k) (f117t18 N u0 a b h i c d e f g _) (zf1 λj a b c d e f g l m=>f117t19 N u0 j a b c d e f g l m K)
def f117t27 N u0 h a b i c d e f g (K:KT ρ):z5t N 2911 (zt4 u0 h a b i c d e f g) f117l9 K =
 spec_dTree.Z27 N h a b i c d e f g (λa b j c d e f g=>K .nrm (zt3 u0 a b j c d e f g)):=by kernel_rfl
def f117t29 N u0 f g h a b c d e (K:KT ρ):z5t N 5983 (zt3 u0 f g h a b c d e) z9y K =
 spec_dTree.Z29 N f g h a b c d e (λi j d e a b c=>K .ret (z8j u0 i j d e a b c)):=by kernel_rfl
def f117t31 N u0 a b h c d e f g (K:KT ρ):z5t N 12127 (zt3 u0 a b h c d e f g) f117l10 K =
 spec_dTree.Z31 N a b h c d e f g (λa b i c d e f g=>K .nrm (zlv u0 a b i c d e f g)):=by kernel_rfl
def f117t33 N u0 f g h a b c d e (K:KT ρ):z5t N 24415 (zlv u0 f g h a b c d e) z9y K =
 spec_dTree.Z33 N f g h a b c d e (λi j d e a b c=>K .ret (z8j u0 i j d e a b c)):=by kernel_rfl
def f117t35 N u0 a b h c d e f g (K:KT ρ):z5t N 48991 (zlv u0 a b h c d e f g) f117l11 K =
 spec_dTree.Z35 N a b h c d e f g (λa b i c d e f g=>K .nrm (zlu u0 a b i c d e f g)):=by kernel_rfl
def f117t38 N u0 f g h a b c d e (K:KT ρ):z5t N 163679 (zlu u0 f g h a b c d e) f117l12 K =
 spec_dTree.Z38 N f g h a b c d e (λi a b c d e j l=>K .nrm (zt6 u0 i a b c d e j l)):=by kernel_rfl
def f117t41 N u0 a b c d e f g h (K:KT ρ):z5t N 622431 (zt6 u0 a b c d e f g h) zt8 K =
 spec_dTree.Z41 N a b c d e f g h (λa i b c d e f g h=>K .nrm (zhn u0 a i b c d e f g h)):=by kernel_rfl
def f117t44 N u0 a i b c d e f g h (K:KT ρ):z5t N 2457439 (zhn u0 a i b c d e f g h) zt8 K =
 spec_dTree.Z44 N a i b c d e f g h (λa i b c d e f g h=>K .nrm (zhn u0 a i b c d e f g h)) (λa e f g h b c d=>K (.exit 3) (zed u0 a e f g h b c d)):=by kernel_rfl
def f117t43L N u0 (K:KT ρ):=lp9 K (spec_dTree.Z43L N (λa b c d e f g h=>K (.exit 3) (zed u0 a b c d e f g h))) (λa i f g h b c d e k=>spec_dTree.Z44 N a i f g h b c d e k (λa b c d e f g h=>K (.exit 3) (zed u0 a b c d e f g h))) (λF a i f g h b c d e=>f117t44 N u0 a i f g h b c d e _) (by kernel_rfl)
def f117t43 N u0 a b c d e f g h i (K:KT ρ):=vL (zhn u0 a b c d e f g h i) (f117t43L N u0 (jK zlx K) N a b c d e f g h i) (by kernel_rfl)
def f117t42 N u0 a i b c d e f g h (K:KT ρ):=vB 3 zlx K (spec_dTree.Z42 N a i b c d e f g h (λa e f g h b c d=>K .nrm (zed u0 a e f g h b c d))) (f117t43 N u0 a i b c d e f g h _) (by kernel_rfl)
def f117t40 N u0 a b c d e f g h (K:KT ρ):=vQ (λk=>spec_dTree.Z41 N a b c d e f g h k) (f117t41 N u0 a b c d e f g h _) (fx9 λa i b c d e f g h=>f117t42 N u0 a i b c d e f g h K)
def f117t45 N u0 f a b g h c d e (K:KT ρ):z5t N 491359 (zed u0 f a b g h c d e) z9y K =
 spec_dTree.Z45 N f a b g h c d e (λi j a b c d e=>K .ret (z8j u0 i j a b c d e)):=by kernel_rfl
def f117t39 N u0 a b c d e f g h (K:KT ρ):=vQ (λk=>spec_dTree.Z40 N a b c d e f g h k) (f117t40 N u0 a b c d e f g h _) (fx8 λa e f g h b c d=>f117t45 N u0 a e f g h b c d K)
def f117t37 N u0 f g h a b c d e (K:KT ρ):=vQ (λk=>spec_dTree.Z38 N f g h a b c d e k) (f117t38 N u0 f g h a b c d e _) (fx8 λi a b c d e j l=>f117t39 N u0 i a b c d e j l K)
def f117t46 N u0 f g h a b c d e (K:KT ρ):z5t N 130911 (zlu u0 f g h a b c d e) z9y K =
 spec_dTree.Z46 N f g h a b c d e (λf a b c d e=>K .nrm (zlt u0 f a b c d e)) (λi j d e a b c=>K .ret (z8j u0 i j d e a b c)):=by kernel_rfl
def f117t36 N u0 b c a d e f g h (K:KT ρ):=vI (.tmp 126) (a) (f117t37 N u0 b c a d e f g h K) (f117t46 N u0 b c a d e f g h K) (by kernel_rfl)
def f117t34 N u0 a b h c d e f g (K:KT ρ):=vQ (λk=>spec_dTree.Z35 N a b h c d e f g k) (f117t35 N u0 a b h c d e f g _) (fx8 λa b i c d e f g=>f117t36 N u0 a b i c d e f g K)
def f117t32 N u0 b c a d e f g h (K:KT ρ):=vI (.tmp 119) (a) (f117t33 N u0 b c a d e f g h K) (f117t34 N u0 b c a d e f g h K) (by kernel_rfl)
def f117t30 N u0 a b h c d e f g (K:KT ρ):=vQ (λk=>spec_dTree.Z31 N a b h c d e f g k) (f117t31 N u0 a b h c d e f g _) (fx8 λa b i c d e f g=>f117t32 N u0 a b i c d e f g K)
def f117t28 N u0 b c a d e f g h (K:KT ρ):=vI (.tmp 110) (a) (f117t29 N u0 b c a d e f g h K) (f117t30 N u0 b c a d e f g h K) (by kernel_rfl)
def f117t26 N u0 h a b i c d e f g (K:KT ρ):=vQ (λk=>spec_dTree.Z27 N h a b i c d e f g k) (f117t27 N u0 h a b i c d e f g _) (fx8 λa b j c d e f g=>f117t28 N u0 a b j c d e f g K)
def f117t16 N u0 b c d a e f g h i (K:KT ρ):=vI (.tmp 65) (a) (f117t17 N u0 b c d a e f g h i K) (f117t26 N u0 b c d a e f g h i K) (by kernel_rfl)
def f117t14 N u0 a b c d e f g h (K:KT ρ):=vQ (λk=>spec_dTree.Z15 N a b c d e f g h k) (f117t15 N u0 a b c d e f g h _) (fx9 λa b c i d e f g h=>f117t16 N u0 a b c i d e f g h K)
def f117t13 N u0 g f h a b c d e (K:KT ρ):=vB 0 z9y K (spec_dTree.Z13 N g f h a b c d e (λf a b c d e=>K .nrm (zlt u0 f a b c d e)) (λi j d e a b c=>K .ret (z8j u0 i j d e a b c))) (f117t14 N u0 g f h a b c d e _) (by kernel_rfl)
def f117t11 N u0 a b c d e f g (K:KT ρ):=vQ (λk=>spec_dTree.Z12 N a b c d e f g k) (f117t12 N u0 a b c d e f g _) (fx8 λa b h c d e f g=>f117t13 N u0 a b h c d e f g K)
def f117t48 N u0 a b c d e f (K:KT ρ):z5t N 191 (zlt u0 a b c d e f) f117l16 K =
 spec_dTree.Z48 N a b c d e f (λg a b c d e f h i=>K .nrm (zt5 u0 g a b c d e f h i)):=by kernel_rfl
def f117t51 N u0 a b c d e f g h i (K:KT ρ):z5t N 639 (zt5 u0 a b c d e f g h i) zt7 K =
 spec_dTree.Z51 N a b c d e f g h i (λa b j c d e f g h i=>K .nrm (zhm u0 a b j c d e f g h i)):=by kernel_rfl
def f117t54 N u0 a b j c d e f g h i (K:KT ρ):z5t N 2431 (zhm u0 a b j c d e f g h i) zt7 K =
 spec_dTree.Z54 N a b j c d e f g h i (λa b j c d e f g h i=>K .nrm (zhm u0 a b j c d e f g h i)) (λa b f g h i c d e=>K (.exit 5) (zec u0 a b f g h i c d e)):=by kernel_rfl
def f117t53L N u0 (K:KT ρ):=lp10 K (spec_dTree.Z53L N (λa b c d e f g h i=>K (.exit 5) (zec u0 a b c d e f g h i))) (λa b j g h i c d e f k=>spec_dTree.Z54 N a b j g h i c d e f k (λa b c d e f g h i=>K (.exit 5) (zec u0 a b c d e f g h i))) (λF a b j g h i c d e f=>f117t54 N u0 a b j g h i c d e f _) (by kernel_rfl)
def f117t53 N u0 a b c d e f g h i j (K:KT ρ):=vL (zhm u0 a b c d e f g h i j) (f117t53L N u0 (jK zlw K) N a b c d e f g h i j) (by kernel_rfl)
def f117t52 N u0 a b j c d e f g h i (K:KT ρ):=vB 5 zlw K (spec_dTree.Z52 N a b j c d e f g h i (λa b f g h i c d e=>K .nrm (zec u0 a b f g h i c d e))) (f117t53 N u0 a b j c d e f g h i _) (by kernel_rfl)
def f117t50 N u0 a b c d e f g h i (K:KT ρ):=vQ (λk=>spec_dTree.Z51 N a b c d e f g h i k) (f117t51 N u0 a b c d e f g h i _) (zf1 λa b j c d e f g h i=>f117t52 N u0 a b j c d e f g h i K)
def f117t55 N u0 f g a b h i c d e (K:KT ρ):z5t N 511 (zec u0 f g a b h i c d e) f117lE K =
 spec_dTree.Z55 N f g a b h i c d e (λj l a b c d e=>K .ret (z8j u0 j l a b c d e)):=by kernel_rfl
def f117t49 N u0 a b c d e f g h i (K:KT ρ):=vQ (λk=>spec_dTree.Z50 N a b c d e f g h i k) (f117t50 N u0 a b c d e f g h i _) (fx9 λa b f g h i c d e=>f117t55 N u0 a b f g h i c d e K)
def f117t47 N u0 a b c d e f (K:KT ρ):=vQ (λk=>spec_dTree.Z48 N a b c d e f k) (f117t48 N u0 a b c d e f _) (fx9 λg a b c d e f h i=>f117t49 N u0 g a b c d e f h i K)
def f117t10 N u0 g f a b c d e (K:KT ρ):=vQ (λk=>spec_dTree.Z11 N g f a b c d e k (λh i d e a b c=>K .ret (z8j u0 h i d e a b c))) (f117t11 N u0 g f a b c d e _) (fx6 λf a b c d e=>f117t47 N u0 f a b c d e K)
def f117t8 N u0 h a b c d e f g (K:KT ρ):=vQ (λk=>spec_dTree.Z9 N h a b c d e f g k) (f117t9 N u0 h a b c d e f g _) (fx7 λa b c d e f g=>f117t10 N u0 a b c d e f g K)
def f117t6 N u0 a b c d e f g h (K:KT ρ):=vQ (λk=>spec_dTree.Z7 N a b c d e f g h k) (f117t7 N u0 a b c d e f g h _) (fx8 λa b c d e f g h=>f117t8 N u0 a b c d e f g h K)
def f117t4 N u0 a b c d e f g (K:KT ρ):=vQ (λk=>spec_dTree.Z5 N a b c d e f g k) (f117t5 N u0 a b c d e f g _) (fx8 λa b h c d e f g=>f117t6 N u0 a b h c d e f g K)
def f117t2 N u0 a b c d e f (K:KT ρ):=vQ (λk=>spec_dTree.Z3 N a b c d e f k) (f117t3 N u0 a b c d e f _) (fx7 λa g b c d e f=>f117t4 N u0 a g b c d e f K)
def f117t0 N u0 b0 r0 a (K:KT ρ):=vQ (λk=>spec_dTree.Z1 N b0 r0 a k) (f117t1 N u0 b0 r0 a _) (fx6 λa b c d e f=>f117t2 N u0 a b c d e f K)
def f117ok(h:spec_dTree.Spec):z24 Tryz.prog 117 e117 :=
 okV Tryz.func117 z2w f117GOk (λN u X K=>f117t0 N u X.1.1.1 X.1.2 X.2.1 K) (by kernel_rfl) λu0 X hb1 hb2 hp=>by
  obtain⟨⟨⟨b0,_⟩,r0⟩,a,_⟩:=X
  obtain⟨N,h⟩:=h [u0] b0 r0 a hb1.1 hp
  exact⟨N,Eq.trans (by kernel_rfl) (h N (Nat.le_refl N))⟩
def e117ok:z24 Tryz.prog 117 e117:=f117ok spec_dTree.ok
end Go.Fw
namespace Go.Fw
variable {ρ : Type}
open Go.Proofs
def ztf:Sig:=⟨[⟨.int .i64,false,false⟩,⟨.int .i64,false,false⟩,⟨.int .i64,false,false⟩],[⟨.bool,false,false⟩]⟩
def e104:z2j:=⟨ztf,none,λX=>((),((z3l.g X.1 X.2.1 X.2.2.1),()))⟩
def f104G:Gm:=z1v
def f104GOk:GOk Tryz.prog f104G:=GOk.nil
def f104lE:z01:=⟨[],[],[],[],[]⟩
def f104s0(a b c:Int):St:=z2e ztf.ps (a,(b,(c,())))
def f104s1(a:Bool):St:=z1h [(6,xB a)] [] []
def f104l1:z01:=⟨[6],[],[],[],[]⟩
def f104B:Nat->Option z01:=z1i [(1000000,f104l1)]
abbrev f104j{ρ:Type}(N n:Nat)(σ:St)(l:z01)(K:KT ρ):Option ρ:=z0w f104G tab f104B N (z2o 99 (z1x Tryz.f104) n) .n σ (z1f (some l) K)
def f104t0 N a b c (K:KT ρ):f104j N 1 (f104s0 a b c) f104lE K =
 z3l.Z0 N a b c (λd=>K .ret (f104s1 d)):=by kernel_rfl
def f104ok(h:z3l.Spec):z0l Tryz.prog 104 e104 :=
 okC Tryz.func104 z2w f104GOk (λN X K=>f104t0 N X.1 X.2.1 X.2.2.1 K) (by kernel_rfl) λX hb hp=>by
  obtain⟨a,b,c,_⟩:=X
  obtain⟨N,h⟩:=h a b c
  exact⟨N,Eq.trans (by kernel_rfl) (h N (Nat.le_refl N))⟩
def e104ok:z0l Tryz.prog 104 e104:=f104ok z3l.ok
end Go.Fw
namespace Go.Fw
variable {ρ : Type}
open Go.Proofs
def zte:Sig:=⟨[⟨.pair (.int .i64) (.pair (.int .i64) (.sl 3 (.int .i64))),true,false⟩,⟨.int .i64,false,false⟩,⟨.int .i64,false,false⟩],[⟨.int .i64,false,false⟩]⟩
def e105:z2j:=⟨zte,(some λX=>z13.P X.1 X.2.1 X.2.2.1),λX=>((),((z13.g X.1 X.2.1 X.2.2.1),()))⟩
def f105G:Gm:=z1v
def f105GOk:GOk Tryz.prog f105G:=GOk.nil
def f105lE:z01:=⟨[],[],[],[],[]⟩
def f105s0(a:MT)(b c:Int):St:=z2e zte.ps (a,(b,(c,())))
def f105s1(a:Int):St:=z1h [(6,xi a)] [] []
def f105l1:z01:=⟨[6],[],[],[],[]⟩
def f105B:Nat->Option z01:=z1i [(1000000,f105l1)]
abbrev f105j{ρ:Type}(N n:Nat)(σ:St)(l:z01)(K:KT ρ):Option ρ:=z0w f105G tab f105B N (z2o 99 (z1x Tryz.f105) n) .n σ (z1f (some l) K)
def f105t0 N a b c (K:KT ρ):f105j N 1 (f105s0 a b c) f105lE K =
 z13.Z0 N a b c (λd=>K .ret (f105s1 d)):=by kernel_rfl
def f105ok(h:z13.Spec):z0l Tryz.prog 105 e105 :=
 okC Tryz.func105 z2w f105GOk (λN X K=>f105t0 N X.1 X.2.1 X.2.2.1 K) (by kernel_rfl) λX hb hp=>by
  obtain⟨a,b,c,_⟩:=X
  obtain⟨N,h⟩:=h a b c hb.1 hp
  exact⟨N,Eq.trans (by kernel_rfl) (h N (Nat.le_refl N))⟩
def zkg:z0l Tryz.prog 105 e105:=f105ok z13.ok
end Go.Fw
namespace Go.Fw
variable {ρ : Type}
open Go.Proofs
def f65sig:Sig:=⟨[⟨.pair (.int .i64) (.pair (.int .i64) (.sl 3 (.int .i64))),true,false⟩],[⟨.bool,false,false⟩]⟩
def e65:z2j:=⟨f65sig,none,λX=>((),((z0v.g X.1),()))⟩
def f65G:Gm:=z3s (z3s z1v 104 e104) 105 e105
def f65GOk:GOk Tryz.prog f65G:=((GOk.nil).add e104ok (by kernel_rfl)).add zkg (by kernel_rfl)
def f65lE:z01:=⟨[],[],[],[],[]⟩
def f65s0(a:MT):St:=z2e f65sig.ps (a,())
def zhk(a b:Int)(c:LI):St:=z1h [(1,xb 1)] [(1,(27,[yi a,yi b,.sn 3 tI c none]))] []
def zsi:z01:=⟨[1],[1],[],[],[]⟩
def f65s2(a b c:Int)(d:LI):St:=z1h [(1,xb 1),(3,xi a)] [(1,(27,[yi b,yi c,.sn 3 tI d none]))] []
def f65l2:z01:=⟨[1,3],[1],[],[],[]⟩
def zcx(a b c:Int)(d:LI):St:=z1h [(1,xb 1),(4,xi a)] [(1,(27,[yi b,yi c,.sn 3 tI d none]))] []
def zk4:z01:=⟨[1,4],[1],[],[],[]⟩
def f65s4(a b c d:Int)(e:LI):St:=z1h [(1,xb 1),(4,xi a),(5,xi b)] [(1,(27,[yi c,yi d,.sn 3 tI e none]))] []
def f65l4:z01:=⟨[1,4,5],[1],[],[],[]⟩
def zpl :St:=z1h [] [] []
def f65l5:z01:=⟨[],[],[],[],[]⟩
def z7z(a:Bool):St:=z1h [(2,xB a)] [] []
def f65l6:z01:=⟨[2],[],[],[],[]⟩
def f65B:Nat->Option z01:=z1i [(0,zsi),(4,zk4),(3,zk4),(2,f65l5),(1000000,f65l6)]
abbrev f65j{ρ:Type}(N n:Nat)(σ:St)(l:z01)(K:KT ρ):Option ρ:=z0w f65G tab f65B N (z2o 99 (z1x Tryz.f65) n) .n σ (z1f (some l) K)
def f65t1 N a (K:KT ρ):f65j N 2 (f65s0 a) zsi K =
 z0v.Z1 N a (λb c d=>K .nrm (zhk b c d)):=by kernel_rfl
def f65t3 N a b c (K:KT ρ):f65j N 5 (zhk a b c) zsi K =
 z0v.Z3 N a b c (λa b c=>K .nrm (zhk a b c)) (λd=>K .ret (z7z d)):=by kernel_rfl
def f65t6 N a b c (K:KT ρ):f65j N 19 (zhk a b c) f65l2 K =
 z0v.Z6 N a b c (λd a b c=>K .nrm (f65s2 d a b c)):=by kernel_rfl
def f65t9 N d a b c (K:KT ρ):f65j N 75 (f65s2 d a b c) f65l2 K =
 z0v.Z9 N d a b c (λd a b c=>K .nrm (f65s2 d a b c)) (λa b c=>K (.exit 0) (zhk a b c)) (λe=>K .ret (z7z e)):=by kernel_rfl
def f65t8L N (K:KT ρ):=lp4 K (z0v.Z8L N (λa b c=>K (.exit 0) (zhk a b c)) (λd=>K .ret (z7z d))) (λe a b c k=>z0v.Z9 N e a b c k (λa b c=>K (.exit 0) (zhk a b c)) (λd=>K .ret (z7z d))) (λF e a b c=>f65t9 N e a b c _) (by kernel_rfl)
def f65t8 N a b c d (K:KT ρ):=vL (f65s2 a b c d) (f65t8L N (jK zsi K) N a b c d) (by kernel_rfl)
def f65t7 N d a b c (K:KT ρ):=vB 0 zsi K (z0v.Z7 N d a b c (λa b c=>K .nrm (zhk a b c)) (λe=>K .ret (z7z e))) (f65t8 N d a b c _) (by kernel_rfl)
def f65t5 N a b c (K:KT ρ):=vQ (λk=>z0v.Z6 N a b c k) (f65t6 N a b c _) (fx4 λd a b c=>f65t7 N d a b c K)
def f65t12 N a b c (K:KT ρ):f65j N 39 (zhk a b c) zk4 K =
 z0v.Z12 N a b c (λd a b c=>K .nrm (zcx d a b c)):=by kernel_rfl
def f65t16 N a b c d (K:KT ρ):f65j N 279 (zcx a b c d) zk4 K =
 z0v.Z16 N a b c d (λa b c d=>K .nrm (zcx a b c d)) (K (.exit 2) zpl):=by kernel_rfl
def f65t20 N a b c d (K:KT ρ):f65j N 2199 (zcx a b c d) f65l4 K =
 z0v.Z20 N a b c d (λa e b c d=>K .nrm (f65s4 a e b c d)):=by kernel_rfl
def f65t23 N a e b c d (K:KT ρ):f65j N 9367 (f65s4 a e b c d) f65l4 K =
 z0v.Z23 N a e b c d (λa e b c d=>K .nrm (f65s4 a e b c d)) (λa b c d=>K (.exit 4) (zcx a b c d)) (λf=>K .ret (z7z f)):=by kernel_rfl
def f65t22L N (K:KT ρ):=lp5 K (z0v.Z22L N (λa b c d=>K (.exit 4) (zcx a b c d)) (λe=>K .ret (z7z e))) (λa f b c d k=>z0v.Z23 N a f b c d k (λa b c d=>K (.exit 4) (zcx a b c d)) (λe=>K .ret (z7z e))) (λF a f b c d=>f65t23 N a f b c d _) (by kernel_rfl)
def f65t22 N a b c d e (K:KT ρ):=vL (f65s4 a b c d e) (f65t22L N (jK zk4 K) N a b c d e) (by kernel_rfl)
def f65t21 N a e b c d (K:KT ρ):=vB 4 zk4 K (z0v.Z21 N a e b c d (λa b c d=>K .nrm (zcx a b c d)) (λf=>K .ret (z7z f))) (f65t22 N a e b c d _) (by kernel_rfl)
def f65t19 N a b c d (K:KT ρ):=vQ (λk=>z0v.Z20 N a b c d k) (f65t20 N a b c d _) (fx5 λa e b c d=>f65t21 N a e b c d K)
def f65t18 N a b c d (K:KT ρ):=vB 3 zk4 K (z0v.Z18 N a b c d (λa b c d=>K .nrm (zcx a b c d)) (λe=>K .ret (z7z e))) (f65t19 N a b c d _) (by kernel_rfl)
def f65t24 N a b c d (K:KT ρ):f65j N 919 (zcx a b c d) zk4 K =
 z0v.Z24 N a b c d (λa b c d=>K .nrm (zcx a b c d)):=by kernel_rfl
def f65t17 N a b c d (K:KT ρ):=vQ (λk=>z0v.Z18 N a b c d k (λe=>K .ret (z7z e))) (f65t18 N a b c d _) (fx4 λa b c d=>f65t24 N a b c d K)
def f65t15 N a b c d (K:KT ρ):=vQ (λk=>z0v.Z16 N a b c d k (K (.exit 2) zpl)) (f65t16 N a b c d _) (fx4 λa b c d=>f65t17 N a b c d K)
def f65t14L N (K:KT ρ):=lp4 K (z0v.Z14L N (K (.exit 2) zpl) (λa=>K .ret (z7z a))) (λb c d e k=>z0v.Z15 N b c d e k (K (.exit 2) zpl) (λa=>K .ret (z7z a))) (λF b c d e=>f65t15 N b c d e _) (by kernel_rfl)
def f65t14 N a b c d (K:KT ρ):=vL (zcx a b c d) (f65t14L N (jK f65l5 K) N a b c d) (by kernel_rfl)
def f65t13 N a b c d (K:KT ρ):=vB 2 f65l5 K (z0v.Z13 N a b c d (K .nrm zpl) (λe=>K .ret (z7z e))) (f65t14 N a b c d _) (by kernel_rfl)
def f65t11 N a b c (K:KT ρ):=vQ (λk=>z0v.Z12 N a b c k) (f65t12 N a b c _) (fx4 λd a b c=>f65t13 N d a b c K)
def f65t25 N  (K:KT ρ):f65j N 31 zpl f65lE K =
 z0v.Z25 N (λa=>K .ret (z7z a)):=by kernel_rfl
def f65t10 N a b c (K:KT ρ):=vQ (λk=>z0v.Z11 N a b c k (λd=>K .ret (z7z d))) (f65t11 N a b c _) (f65t25 N K)
def f65t4 N a b c (K:KT ρ):=vQ (λk=>z0v.Z5 N a b c k (λd=>K .ret (z7z d))) (f65t5 N a b c _) (fx3 λa b c=>f65t10 N a b c K)
def f65t2 N a b c (K:KT ρ):=vQ (λk=>z0v.Z3 N a b c k (λd=>K .ret (z7z d))) (f65t3 N a b c _) (fx3 λa b c=>f65t4 N a b c K)
def f65t0 N a (K:KT ρ):=vQ (λk=>z0v.Z1 N a k) (f65t1 N a _) (fx3 λb c d=>f65t2 N b c d K)
def f65ok(h:z0v.Spec):z0l Tryz.prog 65 e65 :=
 okC Tryz.func65 z2w f65GOk (λN X K=>f65t0 N X.1 K) (by kernel_rfl) λX hb hp=>by
  obtain⟨a,_⟩:=X
  obtain⟨N,h⟩:=h a hb.1
  exact⟨N,Eq.trans (by kernel_rfl) (h N (Nat.le_refl N))⟩
def e65ok:z0l Tryz.prog 65 e65:=f65ok z0v.ok
end Go.Fw
namespace Go.Fw
variable {ρ : Type}
open Go.Proofs
def f72sig:Sig:=⟨[⟨.sl 3 (.int .i64),false,false⟩,⟨.int .i64,false,false⟩],[⟨.bool,false,false⟩]⟩
def e72:z2j:=⟨f72sig,none,λX=>((),((z2g.g X.1 X.2.1),()))⟩
def f72G:Gm:=z1v
def f72GOk:GOk Tryz.prog f72G:=GOk.nil
def f72lE:z01:=⟨[],[],[],[],[]⟩
def f72s0(a:LI)(b:Int):St:=z2e f72sig.ps (a,(b,()))
def f72s1(a:LI)(b:Int):St:=z1h [(0,.c (.sn 3 tI a none)),(1,xi b)] [] []
def f72l1:z01:=⟨[0,1],[],[],[],[]⟩
def f72s2(a:LI)(b d:Int):St:=z1h [(0,.c (.sn 3 tI a none)),(1,xi b),(5,xi d)] [] []
def f72l2:z01:=⟨[0,1,5],[],[],[],[]⟩
def zsc :St:=z1h [] [] []
def f72l3:z01:=⟨[],[],[],[],[]⟩
def zpk(a:Bool):St:=z1h [(4,xB a)] [] []
def f72l4:z01:=⟨[4],[],[],[],[]⟩
def f72B:Nat->Option z01:=z1i [(0,f72l3),(1000000,f72l4)]
abbrev f72j{ρ:Type}(N n:Nat)(σ:St)(l:z01)(K:KT ρ):Option ρ:=z0w f72G tab f72B N (z2o 99 (z1x Tryz.f72) n) .n σ (z1f (some l) K)
def f72t1 N a b (K:KT ρ):f72j N 2 (f72s0 a b) f72l1 K =
 z2g.Z1 N a b (λa b=>K .nrm (f72s1 a b)):=by kernel_rfl
def f72t4 N a b (K:KT ρ):f72j N 9 (f72s1 a b) f72l2 K =
 z2g.Z4 N a b (λa b c=>K .nrm (f72s2 a b c)):=by kernel_rfl
def f72t7 N a b c (K:KT ρ):f72j N 37 (f72s2 a b c) f72l2 K =
 z2g.Z7 N a b c (λa b c=>K .nrm (f72s2 a b c)) (K (.exit 0) zsc) (λd=>K .ret (zpk d)):=by kernel_rfl
def f72t6L N (K:KT ρ):=lp3 K (z2g.Z6L N (K (.exit 0) zsc) (λa=>K .ret (zpk a))) (λb c d k=>z2g.Z7 N b c d k (K (.exit 0) zsc) (λa=>K .ret (zpk a))) (λF b c d=>f72t7 N b c d _) (by kernel_rfl)
def f72t6 N a b c (K:KT ρ):=vL (f72s2 a b c) (f72t6L N (jK f72l3 K) N a b c) (by kernel_rfl)
def f72t5 N a b c (K:KT ρ):=vB 0 f72l3 K (z2g.Z5 N a b c (K .nrm zsc) (λd=>K .ret (zpk d))) (f72t6 N a b c _) (by kernel_rfl)
def f72t3 N a b (K:KT ρ):=vQ (λk=>z2g.Z4 N a b k) (f72t4 N a b _) (fx3 λa b c=>f72t5 N a b c K)
def f72t8 N  (K:KT ρ):f72j N 7 zsc f72lE K =
 z2g.Z8 N (λa=>K .ret (zpk a)):=by kernel_rfl
def f72t2 N a b (K:KT ρ):=vQ (λk=>z2g.Z3 N a b k (λc=>K .ret (zpk c))) (f72t3 N a b _) (f72t8 N K)
def f72t0 N a b (K:KT ρ):=vQ (λk=>z2g.Z1 N a b k) (f72t1 N a b _) (fx2 λa b=>f72t2 N a b K)
def f72ok(h:z2g.Spec):z0l Tryz.prog 72 e72 :=
 okC Tryz.func72 z2w f72GOk (λN X K=>f72t0 N X.1 X.2.1 K) (by kernel_rfl) λX hb hp=>by
  obtain⟨a,b,_⟩:=X
  obtain⟨N,h⟩:=h a b hb.1
  exact⟨N,Eq.trans (by kernel_rfl) (h N (Nat.le_refl N))⟩
def e72ok:z0l Tryz.prog 72 e72:=f72ok z2g.ok
end Go.Fw
namespace Go.Fw
variable {ρ : Type}
open Go.Proofs
def f73sig:Sig:=⟨[⟨.pair (.int .i64) (.pair (.int .i64) (.sl 3 (.int .i64))),true,false⟩,⟨.int .i64,false,false⟩],[⟨.sl 3 (.int .i64),false,false⟩,⟨.sl 3 (.int .i64),false,false⟩]⟩
def e73:z2j:=⟨f73sig,(some λX=>z0x.P X.1 X.2.1),λX=>((),((z0x.g X.1 X.2.1).1,((z0x.g X.1 X.2.1).2,())))⟩
def f73G:Gm:=z3s (z3s z1v 72 e72) 105 e105
def f73GOk:GOk Tryz.prog f73G:=((GOk.nil).add e72ok (by kernel_rfl)).add zkg (by kernel_rfl)
def f73lE:z01:=⟨[],[],[],[],[]⟩
def f73s0(a:MT)(b:Int):St:=z2e f73sig.ps (a,(b,()))
def f73s1(a b c:Int)(d:LI):St:=z1h [(1,xi a),(2,xb 2)] [(2,(27,[yi b,yi c,.sn 3 tI d none]))] []
def f73l1:z01:=⟨[1,2],[2],[],[],[]⟩
def f73s2(a:LI)(b c d:Int)(e:LI):St:=z1h [(1,xi b),(2,xb 2),(6,xo 1000384)] [(2,(27,[yi c,yi d,.sn 3 tI e none]))] [(1000384,(⟨3,.int .i64,a,true,false⟩:Row))]
def f73l2:z01:=⟨[1,2,6],[2],[],[],[(⟨false,6,0⟩,1000384)]⟩
def f73s3(a b:LI)(c d:Int)(e:LI):St:=z1h [(2,xb 2),(6,xo 1000384),(7,xo 1000448)] [(2,(27,[yi c,yi d,.sn 3 tI e none]))] [(1000384,(⟨3,.int .i64,a,true,false⟩:Row)),(1000448,(⟨3,.int .i64,b,true,false⟩:Row))]
def f73l3:z01:=⟨[2,6,7],[2],[],[],[(⟨false,6,0⟩,1000384),(⟨false,7,0⟩,1000448)]⟩
def zcw(a b:LI)(c d e:Int)(f:LI):St:=z1h [(2,xb 2),(6,xo 1000384),(7,xo 1000448),(8,xi c)] [(2,(27,[yi d,yi e,.sn 3 tI f none]))] [(1000384,(⟨3,.int .i64,a,true,false⟩:Row)),(1000448,(⟨3,.int .i64,b,true,false⟩:Row))]
def zk1:z01:=⟨[2,6,7,8],[2],[],[],[(⟨false,6,0⟩,1000384),(⟨false,7,0⟩,1000448)]⟩
def f73s5(a b:LI)(c d e f:Int)(g:LI):St:=z1h [(2,xb 2),(6,xo 1000384),(7,xo 1000448),(8,xi c),(9,xi d)] [(2,(27,[yi e,yi f,.sn 3 tI g none]))] [(1000384,(⟨3,.int .i64,a,true,false⟩:Row)),(1000448,(⟨3,.int .i64,b,true,false⟩:Row))]
def f73l5:z01:=⟨[2,6,7,8,9],[2],[],[],[(⟨false,6,0⟩,1000384),(⟨false,7,0⟩,1000448)]⟩
def zpj(a b:LI):St:=z1h [(6,xo 1000384),(7,xo 1000448)] [] [(1000384,(⟨3,.int .i64,a,true,false⟩:Row)),(1000448,(⟨3,.int .i64,b,true,false⟩:Row))]
def f73l6:z01:=⟨[6,7],[],[],[],[(⟨false,6,0⟩,1000384),(⟨false,7,0⟩,1000448)]⟩
def f73s7(a b:LI):St:=z1h [(4,xo 1000256),(5,xo 1000320)] [] [(1000256,(⟨3,.int .i64,a,true,false⟩:Row)),(1000320,(⟨3,.int .i64,b,true,false⟩:Row))]
def f73l7:z01:=⟨[4,5],[],[],[],[(⟨false,4,0⟩,1000256),(⟨false,5,0⟩,1000320)]⟩
def f73B:Nat->Option z01:=z1i [(2,zk1),(1,zk1),(0,f73l6),(1000000,f73l7)]
abbrev f73j{ρ:Type}(N n:Nat)(σ:St)(l:z01)(K:KT ρ):Option ρ:=z0w f73G tab f73B N (z2o 99 (z1x Tryz.f73) n) .n σ (z1f (some l) K)
def f73t1 N b a (K:KT ρ):f73j N 2 (f73s0 b a) f73l1 K =
 z0x.Z1 N b a (λa c d e=>K .nrm (f73s1 a c d e)):=by kernel_rfl
def f73t3 N a b c d (K:KT ρ):f73j N 5 (f73s1 a b c d) f73l2 K =
 z0x.Z3 N a b c d (λe a b c d=>K .nrm (f73s2 e a b c d)):=by kernel_rfl
def f73t5 N a e b c d (K:KT ρ):f73j N 11 (f73s2 a e b c d) f73l3 K =
 z0x.Z5 N a e b c d (λa f b c d=>K .nrm (f73s3 a f b c d)):=by kernel_rfl
def f73t8 N a b c d e (K:KT ρ):f73j N 39 (f73s3 a b c d e) zk1 K =
 z0x.Z8 N a b c d e (λa b f c d e=>K .nrm (zcw a b f c d e)):=by kernel_rfl
def f73t12 N a b c d e f (K:KT ρ):f73j N 279 (zcw a b c d e f) zk1 K =
 z0x.Z12 N a b c d e f (λa b c d e f=>K .nrm (zcw a b c d e f)) (λa b=>K (.exit 0) (zpj a b)):=by kernel_rfl
def f73t16 N a b c d e f (K:KT ρ):f73j N 2199 (zcw a b c d e f) f73l5 K =
 z0x.Z16 N a b c d e f (λa b c g d e f=>K .nrm (f73s5 a b c g d e f)):=by kernel_rfl
def f73t19 N a b c g d e f (K:KT ρ):f73j N 9367 (f73s5 a b c g d e f) f73l5 K =
 z0x.Z19 N a b c g d e f (λa b c g d e f=>K .nrm (f73s5 a b c g d e f)) (λa b c d e f=>K (.exit 2) (zcw a b c d e f)):=by kernel_rfl
def f73t18L N (K:KT ρ):=lp7 K (z0x.Z18L N (λa b c d e f=>K (.exit 2) (zcw a b c d e f))) (λa b c g d e f k=>z0x.Z19 N a b c g d e f k (λa b c d e f=>K (.exit 2) (zcw a b c d e f))) (λF a b c g d e f=>f73t19 N a b c g d e f _) (by kernel_rfl)
def f73t18 N a b c d e f g (K:KT ρ):=vL (f73s5 a b c d e f g) (f73t18L N (jK zk1 K) N a b c d e f g) (by kernel_rfl)
def f73t17 N a b c g d e f (K:KT ρ):=vB 2 zk1 K (z0x.Z17 N a b c g d e f (λa b c d e f=>K .nrm (zcw a b c d e f))) (f73t18 N a b c g d e f _) (by kernel_rfl)
def f73t15 N a b c d e f (K:KT ρ):=vQ (λk=>z0x.Z16 N a b c d e f k) (f73t16 N a b c d e f _) (fx7 λa b c g d e f=>f73t17 N a b c g d e f K)
def f73t14 N a b c d e f (K:KT ρ):=vB 1 zk1 K (z0x.Z14 N a b c d e f (λa b c d e f=>K .nrm (zcw a b c d e f))) (f73t15 N a b c d e f _) (by kernel_rfl)
def f73t20 N a b c d e f (K:KT ρ):f73j N 919 (zcw a b c d e f) zk1 K =
 z0x.Z20 N a b c d e f (λa b c d e f=>K .nrm (zcw a b c d e f)):=by kernel_rfl
def f73t13 N a b c d e f (K:KT ρ):=vQ (λk=>z0x.Z14 N a b c d e f k) (f73t14 N a b c d e f _) (fx6 λa b c d e f=>f73t20 N a b c d e f K)
def f73t11 N a b c d e f (K:KT ρ):=vQ (λk=>z0x.Z12 N a b c d e f k (λa b=>K (.exit 0) (zpj a b))) (f73t12 N a b c d e f _) (fx6 λa b c d e f=>f73t13 N a b c d e f K)
def f73t10L N (K:KT ρ):=lp6 K (z0x.Z10L N (λa b=>K (.exit 0) (zpj a b))) (λa b c d e f k=>z0x.Z11 N a b c d e f k (λa b=>K (.exit 0) (zpj a b))) (λF a b c d e f=>f73t11 N a b c d e f _) (by kernel_rfl)
def f73t10 N a b c d e f (K:KT ρ):=vL (zcw a b c d e f) (f73t10L N (jK f73l6 K) N a b c d e f) (by kernel_rfl)
def f73t9 N a b c d e f (K:KT ρ):=vB 0 f73l6 K (z0x.Z9 N a b c d e f (λa b=>K .nrm (zpj a b))) (f73t10 N a b c d e f _) (by kernel_rfl)
def f73t7 N a b c d e (K:KT ρ):=vQ (λk=>z0x.Z8 N a b c d e k) (f73t8 N a b c d e _) (fx6 λa b f c d e=>f73t9 N a b f c d e K)
def f73t21 N a b (K:KT ρ):f73j N 31 (zpj a b) f73lE K =
 z0x.Z21 N a b (λc d=>K .ret (f73s7 c d)):=by kernel_rfl
def f73t6 N a b c d e (K:KT ρ):=vQ (λk=>z0x.Z7 N a b c d e k) (f73t7 N a b c d e _) (fx2 λa b=>f73t21 N a b K)
def f73t4 N a e b c d (K:KT ρ):=vQ (λk=>z0x.Z5 N a e b c d k) (f73t5 N a e b c d _) (fx5 λa f b c d=>f73t6 N a f b c d K)
def f73t2 N a b c d (K:KT ρ):=vQ (λk=>z0x.Z3 N a b c d k) (f73t3 N a b c d _) (fx5 λe a b c d=>f73t4 N e a b c d K)
def f73t0 N b a (K:KT ρ):=vQ (λk=>z0x.Z1 N b a k) (f73t1 N b a _) (fx4 λa c d e=>f73t2 N a c d e K)
def f73ok(h:z0x.Spec):z0l Tryz.prog 73 e73 :=
 okC Tryz.func73 z2w f73GOk (λN X K=>f73t0 N X.1 X.2.1 K) (by kernel_rfl) λX hb hp=>by
  obtain⟨a,b,_⟩:=X
  obtain⟨N,h⟩:=h a b hb.1 hp
  exact⟨N,Eq.trans (by kernel_rfl) (h N (Nat.le_refl N))⟩
def e73ok:z0l Tryz.prog 73 e73:=f73ok z0x.ok
end Go.Fw
namespace Go.Fw
variable {ρ : Type}
open Go.Proofs
def ztd:Sig:=⟨[⟨.int .i64,false,false⟩],[⟨.int .i64,false,false⟩]⟩
def e106:z2j:=⟨ztd,none,λX=>((),((z36.g X.1),()))⟩
def f106G:Gm:=z1v
def f106GOk:GOk Tryz.prog f106G:=GOk.nil
def f106lE:z01:=⟨[],[],[],[],[]⟩
def f106s0(a:Int):St:=z2e ztd.ps (a,())
def f106s1(a:Int):St:=z1h [(2,xi a)] [] []
def f106l1:z01:=⟨[2],[],[],[],[]⟩
def f106B:Nat->Option z01:=z1i [(1000000,f106l1)]
abbrev f106j{ρ:Type}(N n:Nat)(σ:St)(l:z01)(K:KT ρ):Option ρ:=z0w f106G tab f106B N (z2o 99 (z1x Tryz.f106) n) .n σ (z1f (some l) K)
def f106t0 N a (K:KT ρ):f106j N 1 (f106s0 a) f106lE K =
 z36.Z0 N a (λb=>K .ret (f106s1 b)):=by kernel_rfl
def f106ok(h:z36.Spec):z0l Tryz.prog 106 e106 :=
 okC Tryz.func106 z2w f106GOk (λN X K=>f106t0 N X.1 K) (by kernel_rfl) λX hb hp=>by
  obtain⟨a,_⟩:=X
  obtain⟨N,h⟩:=h a
  exact⟨N,Eq.trans (by kernel_rfl) (h N (Nat.le_refl N))⟩
def e106ok:z0l Tryz.prog 106 e106:=f106ok z36.ok
end Go.Fw
namespace Go.Fw
variable {ρ : Type}
open Go.Proofs
def ztb:Sig:=⟨[⟨.int .i64,false,false⟩,⟨.int .i64,false,false⟩],[⟨.int .i64,false,false⟩]⟩
def e107:z2j:=⟨ztb,(some λX=>z2m.P X.1 X.2.1),λX=>((),((z2m.g X.1 X.2.1),()))⟩
def f107G:Gm:=z1v
def f107GOk:GOk Tryz.prog f107G:=GOk.nil
def f107lE:z01:=⟨[],[],[],[],[]⟩
def f107s0(a b:Int):St:=z2e ztb.ps (a,(b,()))
def znz(a b:Int):St:=z1h [(0,xi a),(1,xi b)] [] []
def f107l1:z01:=⟨[0,1],[],[],[],[]⟩
def zke(a:Int):St:=z1h [(0,xi a)] [] []
def ztc:z01:=⟨[0],[],[],[],[]⟩
def f107s3(a:Int):St:=z1h [(4,xi a)] [] []
def f107l3:z01:=⟨[4],[],[],[],[]⟩
def f107B:Nat->Option z01:=z1i [(0,ztc),(1000000,f107l3)]
abbrev f107j{ρ:Type}(N n:Nat)(σ:St)(l:z01)(K:KT ρ):Option ρ:=z0w f107G tab f107B N (z2o 99 (z1x Tryz.f107) n) .n σ (z1f (some l) K)
def f107t1 N a b (K:KT ρ):f107j N 2 (f107s0 a b) f107l1 K =
 z2m.Z1 N a b (λa b=>K .nrm (znz a b)):=by kernel_rfl
def f107t5 N a b (K:KT ρ):f107j N 17 (znz a b) f107l1 K =
 z2m.Z5 N a b (λa b=>K .nrm (znz a b)) (λa=>K (.exit 0) (zke a)):=by kernel_rfl
def f107t4L N (K:KT ρ):=lp2 K (z2m.Z4L N (λa=>K (.exit 0) (zke a))) (λa b k=>z2m.Z5 N a b k (λa=>K (.exit 0) (zke a))) (λF a b=>f107t5 N a b _) (by kernel_rfl)
def f107t4 N a b (K:KT ρ):=vL (znz a b) (f107t4L N (jK ztc K) N a b) (by kernel_rfl)
def f107t3 N a b (K:KT ρ):=vB 0 ztc K (z2m.Z3 N a b (λa=>K .nrm (zke a))) (f107t4 N a b _) (by kernel_rfl)
def f107t6 N a (K:KT ρ):f107j N 7 (zke a) f107lE K =
 z2m.Z6 N a (λb=>K .ret (f107s3 b)):=by kernel_rfl
def f107t2 N a b (K:KT ρ):=vQ (λk=>z2m.Z3 N a b k) (f107t3 N a b _) (funext λa=>f107t6 N a K)
def f107t0 N a b (K:KT ρ):=vQ (λk=>z2m.Z1 N a b k) (f107t1 N a b _) (fx2 λa b=>f107t2 N a b K)
def f107ok(h:z2m.Spec):z0l Tryz.prog 107 e107 :=
 okC Tryz.func107 z2w f107GOk (λN X K=>f107t0 N X.1 X.2.1 K) (by kernel_rfl) λX hb hp=>by
  obtain⟨a,b,_⟩:=X
  obtain⟨N,h⟩:=h a b hp
  exact⟨N,Eq.trans (by kernel_rfl) (h N (Nat.le_refl N))⟩
def e107ok:z0l Tryz.prog 107 e107:=f107ok z2m.ok
end Go.Fw
namespace Go.Fw
variable {ρ : Type}
open Go.Proofs
def f66sig:Sig:=⟨[⟨.pair (.int .i64) (.pair (.int .i64) (.sl 3 (.int .i64))),true,false⟩],[⟨.sl 3 (.int .i64),false,false⟩,⟨.bool,false,false⟩]⟩
def e66:z2j:=⟨f66sig,(some λX=>z04.P X.1),λX=>((),((z04.g X.1).1,((z04.g X.1).2,())))⟩
def f66G:Gm:=z3s (z3s (z3s (z3s z1v 73 e73) 105 e105) 106 e106) 107 e107
def f66GOk:GOk Tryz.prog f66G:=((((GOk.nil).add e73ok (by kernel_rfl)).add zkg (by kernel_rfl)).add e106ok (by kernel_rfl)).add e107ok (by kernel_rfl)
def f66lE:z01:=⟨[],[],[],[],[]⟩
def f66s0(a:MT):St:=z2e f66sig.ps (a,())
def f66s1(a b:Int)(c:LI):St:=z1h [(1,xb 1)] [(1,(27,[yi a,yi b,.sn 3 tI c none]))] []
def f66l1:z01:=⟨[1],[1],[],[],[]⟩
def zk3(a:LI)(b c:Int)(d:LI):St:=z1h [(1,xb 1),(4,xo 1000256)] [(1,(27,[yi b,yi c,.sn 3 tI d none]))] [(1000256,(⟨3,.int .i64,a,true,false⟩:Row))]
def f66l2:z01:=⟨[1,4],[1],[],[],[(⟨false,4,0⟩,1000256)]⟩
def z96(a:LI)(b c d:Int)(e:LI):St:=z1h [(1,xb 1),(4,xo 1000256),(5,xi b)] [(1,(27,[yi c,yi d,.sn 3 tI e none]))] [(1000256,(⟨3,.int .i64,a,true,false⟩:Row))]
def zhj:z01:=⟨[1,4,5],[1],[],[],[(⟨false,4,0⟩,1000256)]⟩
def zhi(a b c:LI)(d e f:Int)(g:LI):St:=z1h [(1,xb 1),(4,xo 1000256),(5,xi d),(6,xo 1000384),(7,xo 1000448)] [(1,(27,[yi e,yi f,.sn 3 tI g none]))] [(1000256,(⟨3,.int .i64,a,true,false⟩:Row)),(1000384,(⟨3,.int .i64,b,true,false⟩:Row)),(1000448,(⟨3,.int .i64,c,true,false⟩:Row))]
def zsg:z01:=⟨[1,4,5,6,7],[1],[],[],[(⟨false,4,0⟩,1000256),(⟨false,6,0⟩,1000384),(⟨false,7,0⟩,1000448)]⟩
def f66s5(a b c:LI)(d e f g:Int)(h:LI):St:=z1h [(1,xb 1),(4,xo 1000256),(5,xi d),(6,xo 1000384),(7,xo 1000448),(8,xi e)] [(1,(27,[yi f,yi g,.sn 3 tI h none]))] [(1000256,(⟨3,.int .i64,a,true,false⟩:Row)),(1000384,(⟨3,.int .i64,b,true,false⟩:Row)),(1000448,(⟨3,.int .i64,c,true,false⟩:Row))]
def f66l5:z01:=⟨[1,4,5,6,7,8],[1],[],[],[(⟨false,4,0⟩,1000256),(⟨false,6,0⟩,1000384),(⟨false,7,0⟩,1000448)]⟩
def f66s6(a b c:LI)(d e f g:Int)(h:LI):St:=z1h [(1,xb 1),(4,xo 1000256),(5,xi d),(6,xo 1000384),(7,xo 1000448),(9,xi e)] [(1,(27,[yi f,yi g,.sn 3 tI h none]))] [(1000256,(⟨3,.int .i64,a,true,false⟩:Row)),(1000384,(⟨3,.int .i64,b,true,false⟩:Row)),(1000448,(⟨3,.int .i64,c,true,false⟩:Row))]
def f66l6:z01:=⟨[1,4,5,6,7,9],[1],[],[],[(⟨false,4,0⟩,1000256),(⟨false,6,0⟩,1000384),(⟨false,7,0⟩,1000448)]⟩
def f66s7(a b c:LI)(d e f g h:Int)(i:LI):St:=z1h [(1,xb 1),(4,xo 1000256),(5,xi d),(6,xo 1000384),(7,xo 1000448),(9,xi e),(10,xi f)] [(1,(27,[yi g,yi h,.sn 3 tI i none]))] [(1000256,(⟨3,.int .i64,a,true,false⟩:Row)),(1000384,(⟨3,.int .i64,b,true,false⟩:Row)),(1000448,(⟨3,.int .i64,c,true,false⟩:Row))]
def f66l7:z01:=⟨[1,4,5,6,7,9,10],[1],[],[],[(⟨false,4,0⟩,1000256),(⟨false,6,0⟩,1000384),(⟨false,7,0⟩,1000448)]⟩
def zsf(a b:LI)(c d e f:Int)(g:LI):St:=z1h [(1,xb 1),(4,xo 1000256),(5,xi c),(6,xo 1000384),(9,xi d)] [(1,(27,[yi e,yi f,.sn 3 tI g none]))] [(1000256,(⟨3,.int .i64,a,true,false⟩:Row)),(1000384,(⟨3,.int .i64,b,true,false⟩:Row))]
def f66l8:z01:=⟨[1,4,5,6,9],[1],[],[],[(⟨false,4,0⟩,1000256),(⟨false,6,0⟩,1000384)]⟩
def f66s9(a b:LI)(c d e f g:Int)(h:LI):St:=z1h [(1,xb 1),(4,xo 1000256),(5,xi c),(6,xo 1000384),(9,xi d),(11,xi e)] [(1,(27,[yi f,yi g,.sn 3 tI h none]))] [(1000256,(⟨3,.int .i64,a,true,false⟩:Row)),(1000384,(⟨3,.int .i64,b,true,false⟩:Row))]
def f66l9:z01:=⟨[1,4,5,6,9,11],[1],[],[],[(⟨false,4,0⟩,1000256),(⟨false,6,0⟩,1000384)]⟩
def z7r(a:LI)(b c d:Int)(e:LI):St:=z1h [(1,xb 1),(4,xo 1000256),(12,xi b)] [(1,(27,[yi c,yi d,.sn 3 tI e none]))] [(1000256,(⟨3,.int .i64,a,true,false⟩:Row))]
def zcd:z01:=⟨[1,4,12],[1],[],[],[(⟨false,4,0⟩,1000256)]⟩
def znm(a:LI)(b c d e:Int)(f:LI):St:=z1h [(1,xb 1),(4,xo 1000256),(12,xi b),(13,xi c)] [(1,(27,[yi d,yi e,.sn 3 tI f none]))] [(1000256,(⟨3,.int .i64,a,true,false⟩:Row))]
def f66l11:z01:=⟨[1,4,12,13],[1],[],[],[(⟨false,4,0⟩,1000256)]⟩
def zg5(a:LI):St:=z1h [(4,xo 1000256)] [] [(1000256,(⟨3,.int .i64,a,true,false⟩:Row))]
def zsh:z01:=⟨[4],[],[],[],[(⟨false,4,0⟩,1000256)]⟩
def z8i(a:LI)(b:Bool):St:=z1h [(2,xo 1000128),(3,xB b)] [] [(1000128,(⟨3,.int .i64,a,true,false⟩:Row))]
def f66l13:z01:=⟨[2,3],[],[⟨⟨false,2,0⟩,30000000,3,.int .i64,true⟩],[],[(⟨false,2,0⟩,1000128)]⟩
def f66B:Nat->Option z01:=z1i [(2,zsg),(4,f66l8),(6,zhj),(1,zhj),(0,f66l2),(10,zcd),(9,zcd),(8,zsh),(1000000,f66l13)]
abbrev zf4{ρ:Type}(N n:Nat)(σ:St)(l:z01)(K:KT ρ):Option ρ:=z0w f66G tab f66B N (z2o 99 (z1x Tryz.f66) n) .n σ (z1f (some l) K)
def f66t1 N a (K:KT ρ):zf4 N 2 (f66s0 a) f66l1 K =
 z04.Z1 N a (λb c d=>K .nrm (f66s1 b c d)):=by kernel_rfl
def f66t3 N a b c (K:KT ρ):zf4 N 5 (f66s1 a b c) f66l2 K =
 z04.Z3 N a b c (λd a b c=>K .nrm (zk3 d a b c)):=by kernel_rfl
def f66t6 N a b c d (K:KT ρ):zf4 N 19 (zk3 a b c d) zhj K =
 z04.Z6 N a b c d (λa e b c d=>K .nrm (z96 a e b c d)):=by kernel_rfl
def f66t10 N a e b c d (K:KT ρ):zf4 N 139 (z96 a e b c d) zhj K =
 z04.Z10 N a e b c d (λa e b c d=>K .nrm (z96 a e b c d)) (λa b c d=>K (.exit 0) (zk3 a b c d)):=by kernel_rfl
def f66t14 N a b c d e (K:KT ρ):zf4 N 1099 (z96 a b c d e) zhj K =
 z04.Z14 N a b c d e (λa b c d e=>K .nrm (z96 a b c d e)) (λa b c d e=>K (.exit 1) (z96 a b c d e)):=by kernel_rfl
def f66t16 N a b c d e (K:KT ρ):zf4 N 2635 (z96 a b c d e) zsg K =
 z04.Z16 N a b c d e (λa f g b c d e=>K .nrm (zhi a f g b c d e)):=by kernel_rfl
def f66t18 N a b c d e f g (K:KT ρ):zf4 N 5707 (zhi a b c d e f g) zsg K =
 z04.Z18 N a b c d e f g (λa b c d e f g=>K .nrm (zhi a b c d e f g)):=by kernel_rfl
def f66t21 N a b c d e f g (K:KT ρ):zf4 N 20043 (zhi a b c d e f g) f66l5 K =
 z04.Z21 N a b c d e f g (λa b c d h e f g=>K .nrm (f66s5 a b c d h e f g)):=by kernel_rfl
def f66t24 N a b c d h e f g (K:KT ρ):zf4 N 77387 (f66s5 a b c d h e f g) f66l5 K =
 z04.Z24 N a b c d h e f g (λa b c d h e f g=>K .nrm (f66s5 a b c d h e f g)) (λa b c d e f g=>K (.exit 2) (zhi a b c d e f g)):=by kernel_rfl
def f66t23L N (K:KT ρ):=lp8 K (z04.Z23L N (λa b c d e f g=>K (.exit 2) (zhi a b c d e f g))) (λa b c d h e f g k=>z04.Z24 N a b c d h e f g k (λa b c d e f g=>K (.exit 2) (zhi a b c d e f g))) (λF a b c d h e f g=>f66t24 N a b c d h e f g _) (by kernel_rfl)
def f66t23 N a b c d e f g h (K:KT ρ):=vL (f66s5 a b c d e f g h) (f66t23L N (jK zsg K) N a b c d e f g h) (by kernel_rfl)
def f66t22 N a b c d h e f g (K:KT ρ):=vB 2 zsg K (z04.Z22 N a b c d h e f g (λa b c d e f g=>K .nrm (zhi a b c d e f g))) (f66t23 N a b c d h e f g _) (by kernel_rfl)
def f66t20 N a b c d e f g (K:KT ρ):=vQ (λk=>z04.Z21 N a b c d e f g k) (f66t21 N a b c d e f g _) (fx8 λa b c d h e f g=>f66t22 N a b c d h e f g K)
def f66t26 N a b c d e f g (K:KT ρ):zf4 N 24139 (zhi a b c d e f g) f66l6 K =
 z04.Z26 N a b c d e f g (λa b c d h e f g=>K .nrm (f66s6 a b c d h e f g)):=by kernel_rfl
def f66t29 N a b c d e f g h (K:KT ρ):zf4 N 81483 (f66s6 a b c d e f g h) f66l7 K =
 z04.Z29 N a b c d e f g h (λa b c d e i f g h=>K .nrm (f66s7 a b c d e i f g h)):=by kernel_rfl
def f66t32 N a b h c d i e f g (K:KT ρ):zf4 N 310859 (f66s7 a b h c d i e f g) f66l7 K =
 z04.Z32 N a b h c d i e f g (λa b h c d i e f g=>K .nrm (f66s7 a b h c d i e f g)) (λa b c d e f g=>K (.exit 4) (zsf a b c d e f g)):=by kernel_rfl
def f66t31L N (K:KT ρ):=lp9 K (z04.Z31L N (λa b c d e f g=>K (.exit 4) (zsf a b c d e f g))) (λa b h c d i e f g k=>z04.Z32 N a b h c d i e f g k (λa b c d e f g=>K (.exit 4) (zsf a b c d e f g))) (λF a b h c d i e f g=>f66t32 N a b h c d i e f g _) (by kernel_rfl)
def f66t31 N a b c d e f g h i (K:KT ρ):=vL (f66s7 a b c d e f g h i) (f66t31L N (jK f66l8 K) N a b c d e f g h i) (by kernel_rfl)
def f66t30 N a b h c d i e f g (K:KT ρ):=vB 4 f66l8 K (z04.Z30 N a b h c d i e f g (λa b c d e f g=>K .nrm (zsf a b c d e f g))) (f66t31 N a b h c d i e f g _) (by kernel_rfl)
def f66t28 N a b c d e f g h (K:KT ρ):=vQ (λk=>z04.Z29 N a b c d e f g h k) (f66t29 N a b c d e f g h _) (fx9 λa b c d e i f g h=>f66t30 N a b c d e i f g h K)
def f66t34 N a b c d e f g (K:KT ρ):zf4 N 97867 (zsf a b c d e f g) f66l9 K =
 z04.Z34 N a b c d e f g (λa b c d h e f g=>K .nrm (f66s9 a b c d h e f g)):=by kernel_rfl
def f66t37 N a f b g h c d e (K:KT ρ):zf4 N 327243 (f66s9 a f b g h c d e) f66l9 K =
 z04.Z37 N a f b g h c d e (λa f b g h c d e=>K .nrm (f66s9 a f b g h c d e)) (λa b c d e=>K (.exit 6) (z96 a b c d e)):=by kernel_rfl
def f66t36L N (K:KT ρ):=lp8 K (z04.Z36L N (λa b c d e=>K (.exit 6) (z96 a b c d e))) (λa f b g h c d e k=>z04.Z37 N a f b g h c d e k (λa b c d e=>K (.exit 6) (z96 a b c d e))) (λF a f b g h c d e=>f66t37 N a f b g h c d e _) (by kernel_rfl)
def f66t36 N a b c d e f g h (K:KT ρ):=vL (f66s9 a b c d e f g h) (f66t36L N (jK zhj K) N a b c d e f g h) (by kernel_rfl)
def f66t35 N a f b g h c d e (K:KT ρ):=vB 6 zhj K (z04.Z35 N a f b g h c d e (λa b c d e=>K .nrm (z96 a b c d e))) (f66t36 N a f b g h c d e _) (by kernel_rfl)
def f66t33 N a b c d e f g (K:KT ρ):=vQ (λk=>z04.Z34 N a b c d e f g k) (f66t34 N a b c d e f g _) (fx8 λa b c d h e f g=>f66t35 N a b c d h e f g K)
def f66t27 N a b h c d e f g (K:KT ρ):=vQ (λk=>z04.Z28 N a b h c d e f g k) (f66t28 N a b h c d e f g _) (fx7 λa b c d e f g=>f66t33 N a b c d e f g K)
def f66t25 N a b c d e f g (K:KT ρ):=vQ (λk=>z04.Z26 N a b c d e f g k) (f66t26 N a b c d e f g _) (fx8 λa b c d h e f g=>f66t27 N a b c d h e f g K)
def f66t19 N a b c d e f g (K:KT ρ):=vQ (λk=>z04.Z20 N a b c d e f g k) (f66t20 N a b c d e f g _) (fx7 λa b c d e f g=>f66t25 N a b c d e f g K)
def f66t17 N a b c d e f g (K:KT ρ):=vQ (λk=>z04.Z18 N a b c d e f g k) (f66t18 N a b c d e f g _) (fx7 λa b c d e f g=>f66t19 N a b c d e f g K)
def f66t15 N a b c d e (K:KT ρ):=vQ (λk=>z04.Z16 N a b c d e k) (f66t16 N a b c d e _) (fx7 λa f g b c d e=>f66t17 N a f g b c d e K)
def f66t13 N a b c d e (K:KT ρ):=vQ (λk=>z04.Z14 N a b c d e k (λa b c d e=>K (.exit 1) (z96 a b c d e))) (f66t14 N a b c d e _) (fx5 λa b c d e=>f66t15 N a b c d e K)
def f66t12 N a b c d e (K:KT ρ):=vB 1 zhj K (z04.Z12 N a b c d e (λa b c d e=>K .nrm (z96 a b c d e))) (f66t13 N a b c d e _) (by kernel_rfl)
def f66t38 N a b c d e (K:KT ρ):zf4 N 459 (z96 a b c d e) zhj K =
 z04.Z38 N a b c d e (λa b c d e=>K .nrm (z96 a b c d e)):=by kernel_rfl
def f66t11 N a b c d e (K:KT ρ):=vQ (λk=>z04.Z12 N a b c d e k) (f66t12 N a b c d e _) (fx5 λa b c d e=>f66t38 N a b c d e K)
def f66t9 N a e b c d (K:KT ρ):=vQ (λk=>z04.Z10 N a e b c d k (λa b c d=>K (.exit 0) (zk3 a b c d))) (f66t10 N a e b c d _) (fx5 λa e b c d=>f66t11 N a e b c d K)
def f66t8L N (K:KT ρ):=lp5 K (z04.Z8L N (λa b c d=>K (.exit 0) (zk3 a b c d))) (λa e b c d k=>z04.Z9 N a e b c d k (λa b c d=>K (.exit 0) (zk3 a b c d))) (λF a e b c d=>f66t9 N a e b c d _) (by kernel_rfl)
def f66t8 N a b c d e (K:KT ρ):=vL (z96 a b c d e) (f66t8L N (jK f66l2 K) N a b c d e) (by kernel_rfl)
def f66t7 N a e b c d (K:KT ρ):=vB 0 f66l2 K (z04.Z7 N a e b c d (λa b c d=>K .nrm (zk3 a b c d))) (f66t8 N a e b c d _) (by kernel_rfl)
def f66t5 N a b c d (K:KT ρ):=vQ (λk=>z04.Z6 N a b c d k) (f66t6 N a b c d _) (fx5 λa e b c d=>f66t7 N a e b c d K)
def f66t41 N a b c d (K:KT ρ):zf4 N 39 (zk3 a b c d) zcd K =
 z04.Z41 N a b c d (λa e b c d=>K .nrm (z7r a e b c d)):=by kernel_rfl
def f66t45 N a b c d e (K:KT ρ):zf4 N 279 (z7r a b c d e) zcd K =
 z04.Z45 N a b c d e (λa b c d e=>K .nrm (z7r a b c d e)) (λa=>K (.exit 8) (zg5 a)):=by kernel_rfl
def f66t49 N a b c d e (K:KT ρ):zf4 N 2199 (z7r a b c d e) f66l11 K =
 z04.Z49 N a b c d e (λa b f c d e=>K .nrm (znm a b f c d e)):=by kernel_rfl
def f66t52 N a b f c d e (K:KT ρ):zf4 N 9367 (znm a b f c d e) f66l11 K =
 z04.Z52 N a b f c d e (λa b f c d e=>K .nrm (znm a b f c d e)) (λa b c d e=>K (.exit 10) (z7r a b c d e)) (λg h=>K .ret (z8i g h)):=by kernel_rfl
def f66t51L N (K:KT ρ):=lp6 K (z04.Z51L N (λa b c d e=>K (.exit 10) (z7r a b c d e)) (λf g=>K .ret (z8i f g))) (λa b h c d e k=>z04.Z52 N a b h c d e k (λa b c d e=>K (.exit 10) (z7r a b c d e)) (λf g=>K .ret (z8i f g))) (λF a b h c d e=>f66t52 N a b h c d e _) (by kernel_rfl)
def f66t51 N a b c d e f (K:KT ρ):=vL (znm a b c d e f) (f66t51L N (jK zcd K) N a b c d e f) (by kernel_rfl)
def f66t50 N a b f c d e (K:KT ρ):=vB 10 zcd K (z04.Z50 N a b f c d e (λa b c d e=>K .nrm (z7r a b c d e)) (λg h=>K .ret (z8i g h))) (f66t51 N a b f c d e _) (by kernel_rfl)
def f66t48 N a b c d e (K:KT ρ):=vQ (λk=>z04.Z49 N a b c d e k) (f66t49 N a b c d e _) (fx6 λa b f c d e=>f66t50 N a b f c d e K)
def f66t47 N a b c d e (K:KT ρ):=vB 9 zcd K (z04.Z47 N a b c d e (λa b c d e=>K .nrm (z7r a b c d e)) (λf g=>K .ret (z8i f g))) (f66t48 N a b c d e _) (by kernel_rfl)
def f66t53 N a b c d e (K:KT ρ):zf4 N 919 (z7r a b c d e) zcd K =
 z04.Z53 N a b c d e (λa b c d e=>K .nrm (z7r a b c d e)):=by kernel_rfl
def f66t46 N a b c d e (K:KT ρ):=vQ (λk=>z04.Z47 N a b c d e k (λf g=>K .ret (z8i f g))) (f66t47 N a b c d e _) (fx5 λa b c d e=>f66t53 N a b c d e K)
def f66t44 N a b c d e (K:KT ρ):=vQ (λk=>z04.Z45 N a b c d e k (λa=>K (.exit 8) (zg5 a))) (f66t45 N a b c d e _) (fx5 λa b c d e=>f66t46 N a b c d e K)
def f66t43L N (K:KT ρ):=lp5 K (z04.Z43L N (λa=>K (.exit 8) (zg5 a)) (λb c=>K .ret (z8i b c))) (λa d e f g k=>z04.Z44 N a d e f g k (λa=>K (.exit 8) (zg5 a)) (λb c=>K .ret (z8i b c))) (λF a d e f g=>f66t44 N a d e f g _) (by kernel_rfl)
def f66t43 N a b c d e (K:KT ρ):=vL (z7r a b c d e) (f66t43L N (jK zsh K) N a b c d e) (by kernel_rfl)
def f66t42 N a b c d e (K:KT ρ):=vB 8 zsh K (z04.Z42 N a b c d e (λa=>K .nrm (zg5 a)) (λf g=>K .ret (z8i f g))) (f66t43 N a b c d e _) (by kernel_rfl)
def f66t40 N a b c d (K:KT ρ):=vQ (λk=>z04.Z41 N a b c d k) (f66t41 N a b c d _) (fx5 λa e b c d=>f66t42 N a e b c d K)
def f66t54 N a (K:KT ρ):zf4 N 31 (zg5 a) f66lE K =
 z04.Z54 N a (λb c=>K .ret (z8i b c)):=by kernel_rfl
def f66t39 N a b c d (K:KT ρ):=vQ (λk=>z04.Z40 N a b c d k (λe f=>K .ret (z8i e f))) (f66t40 N a b c d _) (funext λa=>f66t54 N a K)
def f66t4 N a b c d (K:KT ρ):=vQ (λk=>z04.Z5 N a b c d k) (f66t5 N a b c d _) (fx4 λa b c d=>f66t39 N a b c d K)
def f66t2 N a b c (K:KT ρ):=vQ (λk=>z04.Z3 N a b c k) (f66t3 N a b c _) (fx4 λd a b c=>f66t4 N d a b c K)
def f66t0 N a (K:KT ρ):=vQ (λk=>z04.Z1 N a k) (f66t1 N a _) (fx3 λb c d=>f66t2 N b c d K)
def f66ok(h:z04.Spec):z0l Tryz.prog 66 e66 :=
 okC Tryz.func66 z2w f66GOk (λN X K=>f66t0 N X.1 K) (by kernel_rfl) λX hb hp=>by
  obtain⟨a,_⟩:=X
  obtain⟨N,h⟩:=h a hb.1 hp
  exact⟨N,Eq.trans (by kernel_rfl) (h N (Nat.le_refl N))⟩
def e66ok:z0l Tryz.prog 66 e66:=f66ok z04.ok
end Go.Fw
namespace Go.Fw
variable {ρ : Type}
open Go.Proofs
def f25sig:Sig:=⟨[⟨.pair (.int .i64) (.pair (.int .i64) (.sl 3 (.int .i64))),true,false⟩],[⟨.bool,false,false⟩]⟩
def e25:z2j:=⟨f25sig,none,λX=>((),((z1y.g X.1),()))⟩
def f25G:Gm:=z3s (z3s z1v 65 e65) 66 e66
def f25GOk:GOk Tryz.prog f25G:=((GOk.nil).add e65ok (by kernel_rfl)).add e66ok (by kernel_rfl)
def f25lE:z01:=⟨[],[],[],[],[]⟩
def f25s0(a:MT):St:=z2e f25sig.ps (a,())
def f25s1(a:Bool):St:=z1h [(2,xB a)] [] []
def f25l1:z01:=⟨[2],[],[],[],[]⟩
def f25B:Nat->Option z01:=z1i [(1000000,f25l1)]
abbrev f25j{ρ:Type}(N n:Nat)(σ:St)(l:z01)(K:KT ρ):Option ρ:=z0w f25G tab f25B N (z2o 99 (z1x Tryz.f25) n) .n σ (z1f (some l) K)
def f25t0 N a (K:KT ρ):f25j N 1 (f25s0 a) f25lE K =
 z1y.Z0 N a (λb=>K .ret (f25s1 b)):=by kernel_rfl
def f25ok(h:z1y.Spec):z0l Tryz.prog 25 e25 :=
 okC Tryz.func25 z2w f25GOk (λN X K=>f25t0 N X.1 K) (by kernel_rfl) λX hb hp=>by
  obtain⟨a,_⟩:=X
  obtain⟨N,h⟩:=h a hb.1
  exact⟨N,Eq.trans (by kernel_rfl) (h N (Nat.le_refl N))⟩
def e25ok:z0l Tryz.prog 25 e25:=f25ok z1y.ok
end Go.Fw
namespace Go.Fw
variable {ρ : Type}
open Go.Proofs
def f46sig:Sig:=⟨[⟨.sl 3 (.int .i64),false,false⟩],[⟨.sl 3 (.int .i64),false,false⟩]⟩
def e46:z2j:=⟨f46sig,(some λX=>z2y.P X.1),λX=>((),((z2y.g X.1),()))⟩
def f46G:Gm:=z1v
def f46GOk:GOk Tryz.prog f46G:=GOk.nil
def f46lE:z01:=⟨[],[],[],[],[]⟩
def f46s0(a:LI):St:=z2e f46sig.ps (a,())
def f46s1(a:LI):St:=z1h [(2,xo 1000128)] [] [(1000128,(⟨3,.int .i64,a,true,false⟩:Row))]
def f46l1:z01:=⟨[2],[],[],[],[(⟨false,2,0⟩,1000128)]⟩
def f46B:Nat->Option z01:=z1i [(1000000,f46l1)]
abbrev f46j{ρ:Type}(N n:Nat)(σ:St)(l:z01)(K:KT ρ):Option ρ:=z0w f46G tab f46B N (z2o 99 (z1x Tryz.f46) n) .n σ (z1f (some l) K)
def f46t0 N a (K:KT ρ):f46j N 1 (f46s0 a) f46lE K =
 z2y.Z0 N a (λb=>K .ret (f46s1 b)):=by kernel_rfl
def f46ok(h:z2y.Spec):z0l Tryz.prog 46 e46 :=
 okC Tryz.func46 z2w f46GOk (λN X K=>f46t0 N X.1 K) (by kernel_rfl) λX hb hp=>by
  obtain⟨a,_⟩:=X
  obtain⟨N,h⟩:=h a hb.1 hp
  exact⟨N,Eq.trans (by kernel_rfl) (h N (Nat.le_refl N))⟩
def e46ok:z0l Tryz.prog 46 e46:=f46ok z2y.ok
end Go.Fw
namespace Go.Fw
variable {ρ : Type}
open Go.Proofs
def f70sig:Sig:=⟨[⟨.pair (.int .i64) (.pair (.int .i64) (.sl 3 (.int .i64))),true,false⟩],[⟨.pair (.int .i64) (.pair (.int .i64) (.sl 3 (.int .i64))),true,false⟩]⟩
def e70:z2j:=⟨f70sig,(some λX=>z0m.P X.1),λX=>((),((z0m.g X.1),()))⟩
def f70G:Gm:=z3s z1v 46 e46
def f70GOk:GOk Tryz.prog f70G:=(GOk.nil).add e46ok (by kernel_rfl)
def f70lE:z01:=⟨[],[],[],[],[]⟩
def f70s0(a:MT):St:=z2e f70sig.ps (a,())
def f70s1(a:LI)(b c:Int):St:=z1h [(2,xb 2)] [(2,(27,[yi b,yi c,.own 20000130]))] [(20000130,(⟨3,.int .i64,a,true,false⟩:Row))]
def f70l1:z01:=⟨[2],[2],[],[],[(⟨true,2,2⟩,20000130)]⟩
def f70B:Nat->Option z01:=z1i [(1000000,f70l1)]
abbrev f70j{ρ:Type}(N n:Nat)(σ:St)(l:z01)(K:KT ρ):Option ρ:=z0w f70G tab f70B N (z2o 99 (z1x Tryz.f70) n) .n σ (z1f (some l) K)
def f70t0 N a (K:KT ρ):f70j N 1 (f70s0 a) f70lE K =
 z0m.Z0 N a (λb c d=>K .ret (f70s1 b c d)):=by kernel_rfl
def f70ok(h:z0m.Spec):z0l Tryz.prog 70 e70 :=
 okC Tryz.func70 z2w f70GOk (λN X K=>f70t0 N X.1 K) (by kernel_rfl) λX hb hp=>by
  obtain⟨a,_⟩:=X
  obtain⟨N,h⟩:=h a hb.1 hp
  exact⟨N,Eq.trans (by kernel_rfl) (h N (Nat.le_refl N))⟩
def ztt:z0l Tryz.prog 70 e70:=f70ok z0m.ok
end Go.Fw
namespace Go.Fw
variable {ρ : Type}
open Go.Proofs
def f87sig:Sig:=⟨[⟨.pair (.int .i64) (.pair (.int .i64) (.sl 3 (.int .i64))),true,false⟩,⟨.int .i64,false,false⟩],[⟨.pair (.int .i64) (.pair (.int .i64) (.sl 3 (.int .i64))),true,false⟩]⟩
def e87:z2j:=⟨f87sig,(some λX=>z0h.P X.1 X.2.1),λX=>((),((z0h.g X.1 X.2.1),()))⟩
def f87G:Gm:=z3s (z3s z1v 70 e70) 105 e105
def f87GOk:GOk Tryz.prog f87G:=((GOk.nil).add ztt (by kernel_rfl)).add zkg (by kernel_rfl)
def f87lE:z01:=⟨[],[],[],[],[]⟩
def f87s0(a:MT)(b:Int):St:=z2e f87sig.ps (a,(b,()))
def f87s1(a b c:Int)(d:LI)(e f:Int):St:=z1h [(1,xi a),(2,xb 2),(4,xb 4)] [(2,(27,[yi b,yi c,.sn 3 tI d none])),(4,(27,[yi e,yi f,.nil]))] []
def f87l1:z01:=⟨[1,2,4],[2,4],[],[],[]⟩
def f87s2(a:LI)(b c d:Int)(e:LI)(f g h i:Int):St:=z1h [(1,xi b),(2,xb 2),(4,xb 4),(5,xb 5)] [(2,(27,[yi c,yi d,.sn 3 tI e none])),(4,(27,[yi f,yi g,.nil])),(5,(27,[yi h,yi i,.own 20000322]))] [(20000322,(⟨3,.int .i64,a,true,false⟩:Row))]
def f87l2:z01:=⟨[1,2,4,5],[2,4,5],[],[],[(⟨true,5,2⟩,20000322)]⟩
def zbn(a:LI)(b c d e:Int)(f:LI)(g h i j:Int):St:=z1h [(1,xi b),(2,xb 2),(4,xb 4),(5,xb 5),(6,xi c)] [(2,(27,[yi d,yi e,.sn 3 tI f none])),(4,(27,[yi g,yi h,.nil])),(5,(27,[yi i,yi j,.own 20000322]))] [(20000322,(⟨3,.int .i64,a,true,false⟩:Row))]
def zjz:z01:=⟨[1,2,4,5,6],[2,4,5],[],[],[(⟨true,5,2⟩,20000322)]⟩
def zf3(a:LI)(b c d e f:Int)(g:LI)(h i j l:Int):St:=z1h [(1,xi b),(2,xb 2),(4,xb 4),(5,xb 5),(6,xi c),(7,xi d)] [(2,(27,[yi e,yi f,.sn 3 tI g none])),(4,(27,[yi h,yi i,.nil])),(5,(27,[yi j,yi l,.own 20000322]))] [(20000322,(⟨3,.int .i64,a,true,false⟩:Row))]
def zjy:z01:=⟨[1,2,4,5,6,7],[2,4,5],[],[],[(⟨true,5,2⟩,20000322)]⟩
def f87s5(a:LI)(b c d e f g:Int)(h:LI)(i j l m:Int):St:=z1h [(1,xi b),(2,xb 2),(4,xb 4),(5,xb 5),(6,xi c),(7,xi d),(8,xi e)] [(2,(27,[yi f,yi g,.sn 3 tI h none])),(4,(27,[yi i,yi j,.nil])),(5,(27,[yi l,yi m,.own 20000322]))] [(20000322,(⟨3,.int .i64,a,true,false⟩:Row))]
def f87l5:z01:=⟨[1,2,4,5,6,7,8],[2,4,5],[],[],[(⟨true,5,2⟩,20000322)]⟩
def f87s6(a:LI)(b c d e f g h:Int)(i:LI)(j l m o:Int):St:=z1h [(1,xi b),(2,xb 2),(4,xb 4),(5,xb 5),(6,xi c),(7,xi d),(8,xi e),(9,xi f)] [(2,(27,[yi g,yi h,.sn 3 tI i none])),(4,(27,[yi j,yi l,.nil])),(5,(27,[yi m,yi o,.own 20000322]))] [(20000322,(⟨3,.int .i64,a,true,false⟩:Row))]
def f87l6:z01:=⟨[1,2,4,5,6,7,8,9],[2,4,5],[],[],[(⟨true,5,2⟩,20000322)]⟩
def f87s7(a:LI)(b c d e f:Int)(g:Bool)(h i:Int)(j:LI)(l m o p:Int):St:=z1h [(1,xi b),(2,xb 2),(4,xb 4),(5,xb 5),(6,xi c),(7,xi d),(8,xi e),(9,xi f),(32,xB g)] [(2,(27,[yi h,yi i,.sn 3 tI j none])),(4,(27,[yi l,yi m,.nil])),(5,(27,[yi o,yi p,.own 20000322]))] [(20000322,(⟨3,.int .i64,a,true,false⟩:Row))]
def f87l7:z01:=⟨[1,2,4,5,6,7,8,9,32],[2,4,5],[],[],[(⟨true,5,2⟩,20000322)]⟩
def zph(a:LI)(b c d e:Int):St:=z1h [(4,xb 4),(5,xb 5)] [(4,(27,[yi b,yi c,.nil])),(5,(27,[yi d,yi e,.own 20000322]))] [(20000322,(⟨3,.int .i64,a,true,false⟩:Row))]
def f87l8:z01:=⟨[4,5],[4,5],[],[],[(⟨true,5,2⟩,20000322)]⟩
def f87s9(a:LI)(b c:Int):St:=z1h [(4,xb 4)] [(4,(27,[yi b,yi c,.own 20000258]))] [(20000258,(⟨3,.int .i64,a,true,false⟩:Row))]
def f87l9:z01:=⟨[4],[4],[],[],[(⟨true,4,2⟩,20000258)]⟩
def f87B:Nat->Option z01:=z1i [(4,zjy),(3,zjy),(2,zjz),(1,zjz),(0,f87l8),(1000000,f87l9)]
abbrev zpi{ρ:Type}(N n:Nat)(σ:St)(l:z01)(K:KT ρ):Option ρ:=z0w f87G tab f87B N (z2o 99 (z1x Tryz.f87) n) .n σ (z1f (some l) K)
def f87t1 N b a (K:KT ρ):zpi N 2 (f87s0 b a) f87l1 K =
 z0h.Z1 N b a (λa c d e f g=>K .nrm (f87s1 a c d e f g)):=by kernel_rfl
def f87t3 N a b c d e f (K:KT ρ):zpi N 5 (f87s1 a b c d e f) f87l2 K =
 z0h.Z3 N a b c d e f (λg a b c d e f h i=>K .nrm (f87s2 g a b c d e f h i)):=by kernel_rfl
def f87t6 N a b c d e f g h i (K:KT ρ):zpi N 19 (f87s2 a b c d e f g h i) zjz K =
 z0h.Z6 N a b c d e f g h i (λa b j c d e f g h i=>K .nrm (zbn a b j c d e f g h i)):=by kernel_rfl
def f87t10 N a f g h i j b c d e (K:KT ρ):zpi N 139 (zbn a f g h i j b c d e) zjz K =
 z0h.Z10 N a f g h i j b c d e (λa f g h i j b c d e=>K .nrm (zbn a f g h i j b c d e)) (λa b c d e=>K (.exit 0) (zph a b c d e)):=by kernel_rfl
def f87t14 N a b c d e f g h i j (K:KT ρ):zpi N 1099 (zbn a b c d e f g h i j) zjy K =
 z0h.Z14 N a b c d e f g h i j (λa b c l d e f g h i j=>K .nrm (zf3 a b c l d e f g h i j)):=by kernel_rfl
def f87t18 N a b c l d e f g h i j (K:KT ρ):zpi N 8779 (zf3 a b c l d e f g h i j) zjy K =
 z0h.Z18 N a b c l d e f g h i j (λa b c l d e f g h i j=>K .nrm (zf3 a b c l d e f g h i j)) (λa b c d e f g h i j=>K (.exit 2) (zbn a b c d e f g h i j)):=by kernel_rfl
def f87t22 N a b c d e f g h i j l (K:KT ρ):zpi N 70219 (zf3 a b c d e f g h i j l) f87l5 K =
 z0h.Z22 N a b c d e f g h i j l (λa b c d m e f g h i j l=>K .nrm (f87s5 a b c d m e f g h i j l)):=by kernel_rfl
def f87t24 N a b c d e f g h i j l m (K:KT ρ):zpi N 168523 (f87s5 a b c d e f g h i j l m) f87l6 K =
 z0h.Z24 N a b c d e f g h i j l m (λa b c d e o f g h i j l m=>K .nrm (f87s6 a b c d e o f g h i j l m)):=by kernel_rfl
def f87t27 N a b c d e f g h i j l m o (K:KT ρ):zpi N 627275 (f87s6 a b c d e f g h i j l m o) f87l7 K =
 z0h.Z27 N a b c d e f g h i j l m o (λa b c d e f p g h i j l m o=>K .nrm (f87s7 a b c d e f p g h i j l m o)):=by kernel_rfl
def f87t28 N a b c d m o p e f g h i j l (K:KT ρ):zpi N 889419 (f87s7 a b c d m o p e f g h i j l) zjy K =
 z0h.Z28 N a b c d m o p e f g h i j l (λa b c d e f g h i j l=>K .nrm (zf3 a b c d e f g h i j l)):=by kernel_rfl
def f87t26 N a b c d e f g h i j l m o (K:KT ρ):=vQ (λk=>z0h.Z27 N a b c d e f g h i j l m o k) (f87t27 N a b c d e f g h i j l m o _) (fx14 λa b c d e f p g h i j l m o=>f87t28 N a b c d e f p g h i j l m o K)
def f87t25 N a b c d m o e f g h i j l (K:KT ρ):=vB 4 zjy K (z0h.Z25 N a b c d m o e f g h i j l (λa b c d e f g h i j l=>K .nrm (zf3 a b c d e f g h i j l))) (f87t26 N a b c d m o e f g h i j l _) (by kernel_rfl)
def f87t23 N a b c d e f g h i j l m (K:KT ρ):=vQ (λk=>z0h.Z24 N a b c d e f g h i j l m k) (f87t24 N a b c d e f g h i j l m _) (fx13 λa b c d e o f g h i j l m=>f87t25 N a b c d e o f g h i j l m K)
def f87t21 N a b c d e f g h i j l (K:KT ρ):=vQ (λk=>z0h.Z22 N a b c d e f g h i j l k) (f87t22 N a b c d e f g h i j l _) (fx12 λa b c d m e f g h i j l=>f87t23 N a b c d m e f g h i j l K)
def f87t20 N a b c d e f g h i j l (K:KT ρ):=vB 3 zjy K (z0h.Z20 N a b c d e f g h i j l (λa b c d e f g h i j l=>K .nrm (zf3 a b c d e f g h i j l))) (f87t21 N a b c d e f g h i j l _) (by kernel_rfl)
def f87t29 N a b c d e f g h i j l (K:KT ρ):zpi N 29259 (zf3 a b c d e f g h i j l) zjy K =
 z0h.Z29 N a b c d e f g h i j l (λa b c d e f g h i j l=>K .nrm (zf3 a b c d e f g h i j l)):=by kernel_rfl
def f87t19 N a b c d e f g h i j l (K:KT ρ):=vQ (λk=>z0h.Z20 N a b c d e f g h i j l k) (f87t20 N a b c d e f g h i j l _) (zq7 λa b c d e f g h i j l=>f87t29 N a b c d e f g h i j l K)
def f87t17 N a b c l d e f g h i j (K:KT ρ):=vQ (λk=>z0h.Z18 N a b c l d e f g h i j k (λa b c d e f g h i j=>K (.exit 2) (zbn a b c d e f g h i j))) (f87t18 N a b c l d e f g h i j _) (zq7 λa b c l d e f g h i j=>f87t19 N a b c l d e f g h i j K)
def f87t16L N (K:KT ρ):=lp11 K (z0h.Z16L N (λa b c d e f g h i j=>K (.exit 2) (zbn a b c d e f g h i j))) (λa b c l d e f g h i j k=>z0h.Z17 N a b c l d e f g h i j k (λa b c d e f g h i j=>K (.exit 2) (zbn a b c d e f g h i j))) (λF a b c l d e f g h i j=>f87t17 N a b c l d e f g h i j _) (by kernel_rfl)
def f87t16 N a b c d e f g h i j l (K:KT ρ):=vL (zf3 a b c d e f g h i j l) (f87t16L N (jK zjz K) N a b c d e f g h i j l) (by kernel_rfl)
def f87t15 N a b c l d e f g h i j (K:KT ρ):=vB 2 zjz K (z0h.Z15 N a b c l d e f g h i j (λa b c d e f g h i j=>K .nrm (zbn a b c d e f g h i j))) (f87t16 N a b c l d e f g h i j _) (by kernel_rfl)
def f87t13 N a b c d e f g h i j (K:KT ρ):=vQ (λk=>z0h.Z14 N a b c d e f g h i j k) (f87t14 N a b c d e f g h i j _) (zq7 λa b c l d e f g h i j=>f87t15 N a b c l d e f g h i j K)
def f87t12 N a b c d e f g h i j (K:KT ρ):=vB 1 zjz K (z0h.Z12 N a b c d e f g h i j (λa b c d e f g h i j=>K .nrm (zbn a b c d e f g h i j))) (f87t13 N a b c d e f g h i j _) (by kernel_rfl)
def f87t30 N a b c d e f g h i j (K:KT ρ):zpi N 459 (zbn a b c d e f g h i j) zjz K =
 z0h.Z30 N a b c d e f g h i j (λa b c d e f g h i j=>K .nrm (zbn a b c d e f g h i j)):=by kernel_rfl
def f87t11 N a b c d e f g h i j (K:KT ρ):=vQ (λk=>z0h.Z12 N a b c d e f g h i j k) (f87t12 N a b c d e f g h i j _) (zf1 λa b c d e f g h i j=>f87t30 N a b c d e f g h i j K)
def f87t9 N a f g h i j b c d e (K:KT ρ):=vQ (λk=>z0h.Z10 N a f g h i j b c d e k (λa b c d e=>K (.exit 0) (zph a b c d e))) (f87t10 N a f g h i j b c d e _) (zf1 λa f g h i j b c d e=>f87t11 N a f g h i j b c d e K)
def f87t8L N (K:KT ρ):=lp10 K (z0h.Z8L N (λa b c d e=>K (.exit 0) (zph a b c d e))) (λa f g h i j b c d e k=>z0h.Z9 N a f g h i j b c d e k (λa b c d e=>K (.exit 0) (zph a b c d e))) (λF a f g h i j b c d e=>f87t9 N a f g h i j b c d e _) (by kernel_rfl)
def f87t8 N a b c d e f g h i j (K:KT ρ):=vL (zbn a b c d e f g h i j) (f87t8L N (jK f87l8 K) N a b c d e f g h i j) (by kernel_rfl)
def f87t7 N a f g h i j b c d e (K:KT ρ):=vB 0 f87l8 K (z0h.Z7 N a f g h i j b c d e (λa b c d e=>K .nrm (zph a b c d e))) (f87t8 N a f g h i j b c d e _) (by kernel_rfl)
def f87t5 N a b c d e f g h i (K:KT ρ):=vQ (λk=>z0h.Z6 N a b c d e f g h i k) (f87t6 N a b c d e f g h i _) (zf1 λa b j c d e f g h i=>f87t7 N a b j c d e f g h i K)
def f87t31 N c a b d e (K:KT ρ):zpi N 15 (zph c a b d e) f87lE K =
 z0h.Z31 N c a b d e (λf a b=>K .ret (f87s9 f a b)):=by kernel_rfl
def f87t4 N a f g h i b c d e (K:KT ρ):=vQ (λk=>z0h.Z5 N a f g h i b c d e k) (f87t5 N a f g h i b c d e _) (fx5 λa b c d e=>f87t31 N a b c d e K)
def f87t2 N a b c d e f (K:KT ρ):=vQ (λk=>z0h.Z3 N a b c d e f k) (f87t3 N a b c d e f _) (fx9 λg a b c d e f h i=>f87t4 N g a b c d e f h i K)
def f87t0 N b a (K:KT ρ):=vQ (λk=>z0h.Z1 N b a k) (f87t1 N b a _) (fx6 λa c d e f g=>f87t2 N a c d e f g K)
def f87ok(h:z0h.Spec):z0l Tryz.prog 87 e87 :=
 okC Tryz.func87 z2w f87GOk (λN X K=>f87t0 N X.1 X.2.1 K) (by kernel_rfl) λX hb hp=>by
  obtain⟨a,b,_⟩:=X
  obtain⟨N,h⟩:=h a b hb.1 hp
  exact⟨N,Eq.trans (by kernel_rfl) (h N (Nat.le_refl N))⟩
def e87ok:z0l Tryz.prog 87 e87:=f87ok z0h.ok
end Go.Fw
namespace Go.Fw
variable {ρ : Type}
open Go.Proofs
def f71sig:Sig:=⟨[⟨.pair (.int .i64) (.pair (.int .i64) (.sl 3 (.int .i64))),true,false⟩,⟨.int .i64,false,false⟩],[⟨.pair (.int .i64) (.pair (.int .i64) (.sl 3 (.int .i64))),true,false⟩,⟨.bool,false,false⟩]⟩
def e71:z2j:=⟨f71sig,none,λX=>((),((z0u.g X.1 X.2.1).1,((z0u.g X.1 X.2.1).2,())))⟩
def f71G:Gm:=z3s (z3s (z3s (z3s z1v 25 e25) 65 e65) 87 e87) 104 e104
def f71GOk:GOk Tryz.prog f71G:=((((GOk.nil).add e25ok (by kernel_rfl)).add e65ok (by kernel_rfl)).add e87ok (by kernel_rfl)).add e104ok (by kernel_rfl)
def f71lE:z01:=⟨[],[],[],[],[]⟩
def f71s0(a:MT)(b:Int):St:=z2e f71sig.ps (a,(b,()))
def f71s1(a:LI)(b:Bool)(c d:Int):St:=z1h [(4,xb 4),(5,xB b)] [(4,(27,[yi c,yi d,.own 20000258]))] [(20000258,(⟨3,.int .i64,a,true,false⟩:Row))]
def f71l1:z01:=⟨[4,5],[4],[⟨⟨true,4,2⟩,30000000,3,.int .i64,true⟩],[],[(⟨true,4,2⟩,20000258)]⟩
def f71B:Nat->Option z01:=z1i [(1000000,f71l1)]
abbrev f71j{ρ:Type}(N n:Nat)(σ:St)(l:z01)(K:KT ρ):Option ρ:=z0w f71G tab f71B N (z2o 99 (z1x Tryz.f71) n) .n σ (z1f (some l) K)
def f71t0 N a b (K:KT ρ):f71j N 1 (f71s0 a b) f71lE K =
 z0u.Z0 N a b (λc d e f=>K .ret (f71s1 c d e f)):=by kernel_rfl
def f71ok(h:z0u.Spec):z0l Tryz.prog 71 e71 :=
 okC Tryz.func71 z2w f71GOk (λN X K=>f71t0 N X.1 X.2.1 K) (by kernel_rfl) λX hb hp=>by
  obtain⟨a,b,_⟩:=X
  obtain⟨N,h⟩:=h a b hb.1
  exact⟨N,Eq.trans (by kernel_rfl) (h N (Nat.le_refl N))⟩
def e71ok:z0l Tryz.prog 71 e71:=f71ok z0u.ok
end Go.Fw
namespace Go.Fw
variable {ρ : Type}
open Go.Proofs
def f158k:z9a:=⟨98,[(5,.int .u8)],.pair (.int .i64) (.int .i64)⟩
def f158ps:List PT:=[⟨.int .i64,false,false⟩]
def f158rs:List PT:=[⟨.sl 3 (.int .i64),false,false⟩]
def e158:z42:=⟨f158k,f158ps,true,f158rs,(some λX=>z18.P X.1.1.1 X.1.2 X.2.1),λX=>((z18.g X.1.1.1 X.1.2 X.2.1).1,((),((z18.g X.1.1.1 X.1.2 X.2.1).2,())))⟩
def f158G:Gm:=addV z1v 96 e96
def f158GOk:GOk Tryz.prog f158G:=(GOk.nil).addV zf9 (by kernel_rfl)
def f158lE:z01:=⟨[],[],[],[],[]⟩
def f158s0(u0:Value)(b0:List Int)(r0:Int×Int)(a:Int):St:=z33 f158k f158ps [u0] (((b0,()),r0),(a,()))
def f158s1(u0:Value)(a:Int)(b:List Int)(c d:Int):St:=z1h [(0,xb 100000),(1,xi a),(100000,xb 100000)] [(100000,(98,[.bor u0 5 (.int .u8) b,yi c,yi d]))] []
def f158l1:z01:=⟨[0,1,100000],[100000],[],[],[]⟩
def f158s2(u0:Value)(a:LI)(b:Int)(c:List Int)(d e:Int):St:=z1h [(0,xb 100000),(1,xi b),(5,xo 1000320),(100000,xb 100000)] [(100000,(98,[.bor u0 5 (.int .u8) c,yi d,yi e]))] [(1000320,(⟨3,.int .i64,a,true,false⟩:Row))]
def f158l2:z01:=⟨[0,1,5,100000],[100000],[],[],[(⟨false,5,0⟩,1000320)]⟩
def zno(u0:Value)(a:LI)(b c:Int)(d:List Int)(e f:Int):St:=z1h [(0,xb 100000),(1,xi b),(5,xo 1000320),(6,xi c),(100000,xb 100000)] [(100000,(98,[.bor u0 5 (.int .u8) d,yi e,yi f]))] [(1000320,(⟨3,.int .i64,a,true,false⟩:Row))]
def f158l3:z01:=⟨[0,1,5,6,100000],[100000],[],[],[(⟨false,5,0⟩,1000320)]⟩
def zkb(u0:Value)(a:LI)(b:List Int)(c d:Int):St:=z1h [(5,xo 1000320),(100000,xb 100000)] [(100000,(98,[.bor u0 5 (.int .u8) b,yi c,yi d]))] [(1000320,(⟨3,.int .i64,a,true,false⟩:Row))]
def zst:z01:=⟨[5,100000],[100000],[],[],[(⟨false,5,0⟩,1000320)]⟩
def f158s5(u0:Value)(a:LI)(b:List Int)(c d:Int):St:=z1h [(4,xo 1000256),(100000,xb 100000)] [(100000,(98,[.bor u0 5 (.int .u8) b,yi c,yi d]))] [(1000256,(⟨3,.int .i64,a,true,false⟩:Row))]
def f158l5:z01:=⟨[4,100000],[100000],[],[],[(⟨false,4,0⟩,1000256)]⟩
def f158B:Nat->Option z01:=z1i [(0,zst),(1000000,f158l5)]
abbrev zsu{ρ:Type}(N n:Nat)(σ:St)(l:z01)(K:KT ρ):Option ρ:=z0w f158G tab f158B N (z2o 99 (z1x Tryz.f158) n) .n σ (z1f (some l) K)
def f158t1 N u0 b0 r0 a (K:KT ρ):zsu N 2 (f158s0 u0 b0 r0 a) f158l1 K =
 z18.Z1 N b0 r0 a (λa b c d=>K .nrm (f158s1 u0 a b c d)):=by kernel_rfl
def f158t3 N u0 a b c d (K:KT ρ):zsu N 5 (f158s1 u0 a b c d) f158l2 K =
 z18.Z3 N a b c d (λe a b c d=>K .nrm (f158s2 u0 e a b c d)):=by kernel_rfl
def f158t6 N u0 a b c d e (K:KT ρ):zsu N 19 (f158s2 u0 a b c d e) f158l3 K =
 z18.Z6 N a b c d e (λa b f c d e=>K .nrm (zno u0 a b f c d e)):=by kernel_rfl
def f158t9 N u0 a e f b c d (K:KT ρ):zsu N 75 (zno u0 a e f b c d) f158l3 K =
 z18.Z9 N a e f b c d (λa e f b c d=>K .nrm (zno u0 a e f b c d)) (λa b c d=>K (.exit 0) (zkb u0 a b c d)):=by kernel_rfl
def f158t8L N u0 (K:KT ρ):=lp6 K (z18.Z8L N (λa b c d=>K (.exit 0) (zkb u0 a b c d))) (λa e f b c d k=>z18.Z9 N a e f b c d k (λa b c d=>K (.exit 0) (zkb u0 a b c d))) (λF a e f b c d=>f158t9 N u0 a e f b c d _) (by kernel_rfl)
def f158t8 N u0 a b c d e f (K:KT ρ):=vL (zno u0 a b c d e f) (f158t8L N u0 (jK zst K) N a b c d e f) (by kernel_rfl)
def f158t7 N u0 a e f b c d (K:KT ρ):=vB 0 zst K (z18.Z7 N a e f b c d (λa b c d=>K .nrm (zkb u0 a b c d))) (f158t8 N u0 a e f b c d _) (by kernel_rfl)
def f158t5 N u0 a b c d e (K:KT ρ):=vQ (λk=>z18.Z6 N a b c d e k) (f158t6 N u0 a b c d e _) (fx6 λa b f c d e=>f158t7 N u0 a b f c d e K)
def f158t10 N u0 d a b c (K:KT ρ):zsu N 15 (zkb u0 d a b c) f158lE K =
 z18.Z10 N d a b c (λe a b c=>K .ret (f158s5 u0 e a b c)):=by kernel_rfl
def f158t4 N u0 a e b c d (K:KT ρ):=vQ (λk=>z18.Z5 N a e b c d k) (f158t5 N u0 a e b c d _) (fx4 λa b c d=>f158t10 N u0 a b c d K)
def f158t2 N u0 a b c d (K:KT ρ):=vQ (λk=>z18.Z3 N a b c d k) (f158t3 N u0 a b c d _) (fx5 λe a b c d=>f158t4 N u0 e a b c d K)
def f158t0 N u0 b0 r0 a (K:KT ρ):=vQ (λk=>z18.Z1 N b0 r0 a k) (f158t1 N u0 b0 r0 a _) (fx4 λa b c d=>f158t2 N u0 a b c d K)
def f158ok(h:z18.Spec):z24 Tryz.prog 158 e158 :=
 okV Tryz.func158 z2w f158GOk (λN u X K=>f158t0 N u X.1.1.1 X.1.2 X.2.1 K) (by kernel_rfl) λu0 X hb1 hb2 hp=>by
  obtain⟨⟨⟨b0,_⟩,r0⟩,a,_⟩:=X
  obtain⟨N,h⟩:=h [u0] b0 r0 a hb1.1 hp
  exact⟨N,Eq.trans (by kernel_rfl) (h N (Nat.le_refl N))⟩
def e158ok:z24 Tryz.prog 158 e158:=f158ok z18.ok
end Go.Fw
namespace Go.Fw
variable {ρ : Type}
open Go.Proofs
def zt0:Sig:=⟨[⟨.pair (.int .i64) (.pair (.int .i64) (.sl 3 (.int .i64))),true,false⟩,⟨.sl 3 (.int .i64),false,false⟩],[⟨.pair (.int .i64) (.pair (.int .i64) (.sl 3 (.int .i64))),true,false⟩]⟩
def e120:z2j:=⟨zt0,(some λX=>z0p.P X.1 X.2.1),λX=>((),((z0p.g X.1 X.2.1),()))⟩
def f120G:Gm:=z3s (z3s z1v 70 e70) 105 e105
def f120GOk:GOk Tryz.prog f120G:=((GOk.nil).add ztt (by kernel_rfl)).add zkg (by kernel_rfl)
def f120lE:z01:=⟨[],[],[],[],[]⟩
def f120s0(a:MT)(b:LI):St:=z2e zt0.ps (a,(b,()))
def f120s1(a:LI)(b d:Int)(e:LI)(f g:Int):St:=z1h [(1,.c (.sn 3 tI a none)),(2,xb 2),(4,xb 4)] [(2,(27,[yi b,yi d,.sn 3 tI e none])),(4,(27,[yi f,yi g,.nil]))] []
def f120l1:z01:=⟨[1,2,4],[2,4],[],[],[]⟩
def f120s2(a b:LI)(d e:Int)(f:LI)(g h i j:Int):St:=z1h [(1,.c (.sn 3 tI b none)),(2,xb 2),(4,xb 4),(5,xb 5)] [(2,(27,[yi d,yi e,.sn 3 tI f none])),(4,(27,[yi g,yi h,.nil])),(5,(27,[yi i,yi j,.own 20000322]))] [(20000322,(⟨3,.int .i64,a,true,false⟩:Row))]
def f120l2:z01:=⟨[1,2,4,5],[2,4,5],[],[],[(⟨true,5,2⟩,20000322)]⟩
def z7s(a b:LI)(d e f:Int)(g:LI)(h i j l:Int):St:=z1h [(1,.c (.sn 3 tI b none)),(2,xb 2),(4,xb 4),(5,xb 5),(6,xi d)] [(2,(27,[yi e,yi f,.sn 3 tI g none])),(4,(27,[yi h,yi i,.nil])),(5,(27,[yi j,yi l,.own 20000322]))] [(20000322,(⟨3,.int .i64,a,true,false⟩:Row))]
def zce:z01:=⟨[1,2,4,5,6],[2,4,5],[],[],[(⟨true,5,2⟩,20000322)]⟩
def znr(a b:LI)(d e f g:Int)(h:LI)(i j l m:Int):St:=z1h [(1,.c (.sn 3 tI b none)),(2,xb 2),(4,xb 4),(5,xb 5),(6,xi d),(7,xi e)] [(2,(27,[yi f,yi g,.sn 3 tI h none])),(4,(27,[yi i,yi j,.nil])),(5,(27,[yi l,yi m,.own 20000322]))] [(20000322,(⟨3,.int .i64,a,true,false⟩:Row))]
def f120l4:z01:=⟨[1,2,4,5,6,7],[2,4,5],[],[],[(⟨true,5,2⟩,20000322)]⟩
def znq(a b:LI)(d e f g h:Int)(i:LI)(j l m o:Int):St:=z1h [(1,.c (.sn 3 tI b none)),(2,xb 2),(4,xb 4),(5,xb 5),(6,xi d),(7,xi e),(8,xi f)] [(2,(27,[yi g,yi h,.sn 3 tI i none])),(4,(27,[yi j,yi l,.nil])),(5,(27,[yi m,yi o,.own 20000322]))] [(20000322,(⟨3,.int .i64,a,true,false⟩:Row))]
def f120l5:z01:=⟨[1,2,4,5,6,7,8],[2,4,5],[],[],[(⟨true,5,2⟩,20000322)]⟩
def zg7(a:LI)(b c d e:Int):St:=z1h [(4,xb 4),(5,xb 5)] [(4,(27,[yi b,yi c,.nil])),(5,(27,[yi d,yi e,.own 20000322]))] [(20000322,(⟨3,.int .i64,a,true,false⟩:Row))]
def zt1:z01:=⟨[4,5],[4,5],[],[],[(⟨true,5,2⟩,20000322)]⟩
def f120s7(a:LI)(b c:Int):St:=z1h [(4,xb 4)] [(4,(27,[yi b,yi c,.own 20000258]))] [(20000258,(⟨3,.int .i64,a,true,false⟩:Row))]
def f120l7:z01:=⟨[4],[4],[],[],[(⟨true,4,2⟩,20000258)]⟩
def f120B:Nat->Option z01:=z1i [(2,zce),(1,zce),(0,zt1),(1000000,f120l7)]
abbrev zf5{ρ:Type}(N n:Nat)(σ:St)(l:z01)(K:KT ρ):Option ρ:=z0w f120G tab f120B N (z2o 99 (z1x Tryz.f120) n) .n σ (z1f (some l) K)
def f120t1 N b a (K:KT ρ):zf5 N 2 (f120s0 b a) f120l1 K =
 z0p.Z1 N b a (λa c d e f g=>K .nrm (f120s1 a c d e f g)):=by kernel_rfl
def f120t3 N a b c d e f (K:KT ρ):zf5 N 5 (f120s1 a b c d e f) f120l2 K =
 z0p.Z3 N a b c d e f (λg a b c d e f h i=>K .nrm (f120s2 g a b c d e f h i)):=by kernel_rfl
def f120t6 N a b c d e f g h i (K:KT ρ):zf5 N 19 (f120s2 a b c d e f g h i) zce K =
 z0p.Z6 N a b c d e f g h i (λa b j c d e f g h i=>K .nrm (z7s a b j c d e f g h i)):=by kernel_rfl
def f120t10 N a f g h i j b c d e (K:KT ρ):zf5 N 139 (z7s a f g h i j b c d e) zce K =
 z0p.Z10 N a f g h i j b c d e (λa f g h i j b c d e=>K .nrm (z7s a f g h i j b c d e)) (λa b c d e=>K (.exit 0) (zg7 a b c d e)):=by kernel_rfl
def f120t14 N a b c d e f g h i j (K:KT ρ):zf5 N 1099 (z7s a b c d e f g h i j) f120l4 K =
 z0p.Z14 N a b c d e f g h i j (λa b c l d e f g h i j=>K .nrm (znr a b c l d e f g h i j)):=by kernel_rfl
def f120t16 N a b c d e f g h i j l (K:KT ρ):zf5 N 2635 (znr a b c d e f g h i j l) f120l4 K =
 z0p.Z16 N a b c d e f g h i j l (λa b c d e f g h i j l=>K .nrm (znr a b c d e f g h i j l)):=by kernel_rfl
def f120t18 N a b c d e f g h i j l (K:KT ρ):zf5 N 5707 (znr a b c d e f g h i j l) f120l5 K =
 z0p.Z18 N a b c d e f g h i j l (λa b c d m e f g h i j l=>K .nrm (znq a b c d m e f g h i j l)):=by kernel_rfl
def f120t21 N a b c l m d e f g h i j (K:KT ρ):zf5 N 20043 (znq a b c l m d e f g h i j) f120l5 K =
 z0p.Z21 N a b c l m d e f g h i j (λa b c l m d e f g h i j=>K .nrm (znq a b c l m d e f g h i j)) (λa b c d e f g h i j=>K (.exit 2) (z7s a b c d e f g h i j)):=by kernel_rfl
def f120t20L N (K:KT ρ):=lp12 K (z0p.Z20L N (λa b c d e f g h i j=>K (.exit 2) (z7s a b c d e f g h i j))) (λa b c l m d e f g h i j k=>z0p.Z21 N a b c l m d e f g h i j k (λa b c d e f g h i j=>K (.exit 2) (z7s a b c d e f g h i j))) (λF a b c l m d e f g h i j=>f120t21 N a b c l m d e f g h i j _) (by kernel_rfl)
def f120t20 N a b c d e f g h i j l m (K:KT ρ):=vL (znq a b c d e f g h i j l m) (f120t20L N (jK zce K) N a b c d e f g h i j l m) (by kernel_rfl)
def f120t19 N a b c l m d e f g h i j (K:KT ρ):=vB 2 zce K (z0p.Z19 N a b c l m d e f g h i j (λa b c d e f g h i j=>K .nrm (z7s a b c d e f g h i j))) (f120t20 N a b c l m d e f g h i j _) (by kernel_rfl)
def f120t17 N a b c d e f g h i j l (K:KT ρ):=vQ (λk=>z0p.Z18 N a b c d e f g h i j l k) (f120t18 N a b c d e f g h i j l _) (fx12 λa b c d m e f g h i j l=>f120t19 N a b c d m e f g h i j l K)
def f120t15 N a b c d e f g h i j l (K:KT ρ):=vQ (λk=>z0p.Z16 N a b c d e f g h i j l k) (f120t16 N a b c d e f g h i j l _) (zq7 λa b c d e f g h i j l=>f120t17 N a b c d e f g h i j l K)
def f120t13 N a b c d e f g h i j (K:KT ρ):=vQ (λk=>z0p.Z14 N a b c d e f g h i j k) (f120t14 N a b c d e f g h i j _) (zq7 λa b c l d e f g h i j=>f120t15 N a b c l d e f g h i j K)
def f120t12 N a b c d e f g h i j (K:KT ρ):=vB 1 zce K (z0p.Z12 N a b c d e f g h i j (λa b c d e f g h i j=>K .nrm (z7s a b c d e f g h i j))) (f120t13 N a b c d e f g h i j _) (by kernel_rfl)
def f120t22 N a b c d e f g h i j (K:KT ρ):zf5 N 459 (z7s a b c d e f g h i j) zce K =
 z0p.Z22 N a b c d e f g h i j (λa b c d e f g h i j=>K .nrm (z7s a b c d e f g h i j)):=by kernel_rfl
def f120t11 N a b c d e f g h i j (K:KT ρ):=vQ (λk=>z0p.Z12 N a b c d e f g h i j k) (f120t12 N a b c d e f g h i j _) (zf1 λa b c d e f g h i j=>f120t22 N a b c d e f g h i j K)
def f120t9 N a f g h i j b c d e (K:KT ρ):=vQ (λk=>z0p.Z10 N a f g h i j b c d e k (λa b c d e=>K (.exit 0) (zg7 a b c d e))) (f120t10 N a f g h i j b c d e _) (zf1 λa f g h i j b c d e=>f120t11 N a f g h i j b c d e K)
def f120t8L N (K:KT ρ):=lp10 K (z0p.Z8L N (λa b c d e=>K (.exit 0) (zg7 a b c d e))) (λa f g h i j b c d e k=>z0p.Z9 N a f g h i j b c d e k (λa b c d e=>K (.exit 0) (zg7 a b c d e))) (λF a f g h i j b c d e=>f120t9 N a f g h i j b c d e _) (by kernel_rfl)
def f120t8 N a b c d e f g h i j (K:KT ρ):=vL (z7s a b c d e f g h i j) (f120t8L N (jK zt1 K) N a b c d e f g h i j) (by kernel_rfl)
def f120t7 N a f g h i j b c d e (K:KT ρ):=vB 0 zt1 K (z0p.Z7 N a f g h i j b c d e (λa b c d e=>K .nrm (zg7 a b c d e))) (f120t8 N a f g h i j b c d e _) (by kernel_rfl)
def f120t5 N a b c d e f g h i (K:KT ρ):=vQ (λk=>z0p.Z6 N a b c d e f g h i k) (f120t6 N a b c d e f g h i _) (zf1 λa b j c d e f g h i=>f120t7 N a b j c d e f g h i K)
def f120t23 N c a b d e (K:KT ρ):zf5 N 15 (zg7 c a b d e) f120lE K =
 z0p.Z23 N c a b d e (λf a b=>K .ret (f120s7 f a b)):=by kernel_rfl
def f120t4 N a f g h i b c d e (K:KT ρ):=vQ (λk=>z0p.Z5 N a f g h i b c d e k) (f120t5 N a f g h i b c d e _) (fx5 λa b c d e=>f120t23 N a b c d e K)
def f120t2 N a b c d e f (K:KT ρ):=vQ (λk=>z0p.Z3 N a b c d e f k) (f120t3 N a b c d e f _) (fx9 λg a b c d e f h i=>f120t4 N g a b c d e f h i K)
def f120t0 N b a (K:KT ρ):=vQ (λk=>z0p.Z1 N b a k) (f120t1 N b a _) (fx6 λa c d e f g=>f120t2 N a c d e f g K)
def f120ok(h:z0p.Spec):z0l Tryz.prog 120 e120 :=
 okC Tryz.func120 z2w f120GOk (λN X K=>f120t0 N X.1 X.2.1 K) (by kernel_rfl) λX hb hp=>by
  obtain⟨a,b,_⟩:=X
  obtain⟨N,h⟩:=h a b hb.1 hb.2.1 hp
  exact⟨N,Eq.trans (by kernel_rfl) (h N (Nat.le_refl N))⟩
def e120ok:z0l Tryz.prog 120 e120:=f120ok z0p.ok
end Go.Fw
namespace Go.Fw
variable {ρ : Type}
open Go.Proofs
def f118k:z9a:=⟨98,[(5,.int .u8)],.pair (.int .i64) (.int .i64)⟩
def f118ps:List PT:=[⟨.pair (.int .i64) (.pair (.int .i64) (.sl 3 (.int .i64))),true,false⟩]
def f118rs:List PT:=[⟨.pair (.int .i64) (.pair (.int .i64) (.sl 3 (.int .i64))),true,false⟩]
def e118:z42:=⟨f118k,f118ps,true,f118rs,(some λX=>z0r.P X.1.1.1 X.1.2 X.2.1),λX=>((z0r.g X.1.1.1 X.1.2 X.2.1).1,((),((z0r.g X.1.1.1 X.1.2 X.2.1).2,())))⟩
def f118G:Gm:=addV (z3s (addV (z3s z1v 71 e71) 96 e96) 120 e120) 158 e158
def f118GOk:GOk Tryz.prog f118G:=((((GOk.nil).add e71ok (by kernel_rfl)).addV zf9 (by kernel_rfl)).add e120ok (by kernel_rfl)).addV e158ok (by kernel_rfl)
def f118lE:z01:=⟨[],[],[],[],[]⟩
def f118s0(u0:Value)(b0:List Int)(r0:Int×Int)(a:MT):St:=z33 f118k f118ps [u0] (((b0,()),r0),(a,()))
def zea(u0:Value)(a:List Int)(b c d e:Int)(f:LI)(g h:Int):St:=z1h [(0,xb 100000),(3,xb 3),(4,xb 4),(100000,xb 100000)] [(100000,(98,[.bor u0 5 (.int .u8) a,yi b,yi c])),(3,(27,[yi d,yi e,.sn 3 tI f none])),(4,(27,[yi g,yi h,.nil]))] []
def zns:z01:=⟨[0,3,4,100000],[100000,3,4],[],[],[]⟩
def f118s2(u0:Value)(a:Int)(b:List Int)(c d e f:Int)(g:LI)(h i:Int):St:=z1h [(0,xb 100000),(3,xb 3),(4,xb 4),(5,xi a),(100000,xb 100000)] [(100000,(98,[.bor u0 5 (.int .u8) b,yi c,yi d])),(3,(27,[yi e,yi f,.sn 3 tI g none])),(4,(27,[yi h,yi i,.nil]))] []
def f118l2:z01:=⟨[0,3,4,5,100000],[100000,3,4],[],[],[]⟩
def f118s3(u0:Value)(a b:Int)(c:List Int)(d e f g:Int)(h:LI)(i j:Int):St:=z1h [(0,xb 100000),(3,xb 3),(4,xb 4),(5,xi a),(6,xi b),(100000,xb 100000)] [(100000,(98,[.bor u0 5 (.int .u8) c,yi d,yi e])),(3,(27,[yi f,yi g,.sn 3 tI h none])),(4,(27,[yi i,yi j,.nil]))] []
def f118l3:z01:=⟨[0,3,4,5,6,100000],[100000,3,4],[],[],[]⟩
def f118s4(u0:Value)(a b:Int)(c:List Int)(d e f g:Int)(h:LI)(i j:Int):St:=z1h [(0,xb 100000),(3,xb 3),(4,xb 4),(5,xi a),(6,xi b),(100000,xb 100000)] [(100000,(98,[.bor u0 5 (.int .u8) c,yi d,yi e])),(3,(27,[yi f,yi g,.sn 3 tI h none])),(4,(27,[yi i,yi j,.nil]))] []
def f118l4:z01:=⟨[0,3,4,5,6,100000],[100000,3,4],[],[(⟨true,3,2⟩,3,.int .i64)],[]⟩
def f118s5(u0:Value)(a:LI)(b c:Int)(d:List Int)(e f:Int):St:=z1h [(4,xb 4),(100000,xb 100000)] [(4,(27,[yi b,yi c,.own 20000258])),(100000,(98,[.bor u0 5 (.int .u8) d,yi e,yi f]))] [(20000258,(⟨3,.int .i64,a,true,false⟩:Row))]
def f118l5:z01:=⟨[4,100000],[4,100000],[],[],[(⟨true,4,2⟩,20000258)]⟩
def f118B:Nat->Option z01:=z1i [(0,zns),(1000000,f118l5)]
abbrev zt2{ρ:Type}(N n:Nat)(σ:St)(l:z01)(K:KT ρ):Option ρ:=z0w f118G tab f118B N (z2o 99 (z1x Tryz.f118) n) .n σ (z1f (some l) K)
def f118t1 N u0 b0 r0 a (K:KT ρ):zt2 N 2 (f118s0 u0 b0 r0 a) zns K =
 z0r.Z1 N b0 r0 a (λb c d e f g h i=>K .nrm (zea u0 b c d e f g h i)):=by kernel_rfl
def f118t3 N u0 a b c d e f g h (K:KT ρ):zt2 N 5 (zea u0 a b c d e f g h) f118l2 K =
 z0r.Z3 N a b c d e f g h (λi a b c d e f g h=>K .nrm (f118s2 u0 i a b c d e f g h)):=by kernel_rfl
def f118t6 N u0 a b c d e f g h i (K:KT ρ):zt2 N 19 (f118s2 u0 a b c d e f g h i) f118l3 K =
 z0r.Z6 N a b c d e f g h i (λa j b c d e f g h i=>K .nrm (f118s3 u0 a j b c d e f g h i)):=by kernel_rfl
def f118t9 N u0 i j a b c d e f g h (K:KT ρ):zt2 N 75 (f118s4 u0 i j a b c d e f g h) f118l4 K =
 z0r.Z9 N i j a b c d e f g h (λi j a b c d e f g h=>K .nrm (f118s4 u0 i j a b c d e f g h)) (λa b c d e f g h=>K (.exit 0) (zea u0 a b c d e f g h)):=by kernel_rfl
def f118t8L N u0 (K:KT ρ):=lp10 K (z0r.Z8L N (λa b c d e f g h=>K (.exit 0) (zea u0 a b c d e f g h))) (λi j a b c d e f g h k=>z0r.Z9 N i j a b c d e f g h k (λa b c d e f g h=>K (.exit 0) (zea u0 a b c d e f g h))) (λF i j a b c d e f g h=>f118t9 N u0 i j a b c d e f g h _) (by kernel_rfl)
def f118t8 N u0 a b c d e f g h i j (K:KT ρ):=vL (f118s3 u0 a b c d e f g h i j) (f118t8L N u0 (jK zns K) N a b c d e f g h i j) (by kernel_rfl)
def f118t7 N u0 i j a b c d e f g h (K:KT ρ):=vB 0 zns K (z0r.Z7 N i j a b c d e f g h (λa b c d e f g h=>K .nrm (zea u0 a b c d e f g h))) (f118t8 N u0 i j a b c d e f g h _) (by kernel_rfl)
def f118t5 N u0 a b c d e f g h i (K:KT ρ):=vQ (λk=>z0r.Z6 N a b c d e f g h i k) (f118t6 N u0 a b c d e f g h i _) (zf1 λa j b c d e f g h i=>f118t7 N u0 a j b c d e f g h i K)
def f118t10 N u0 a b c f g h d e (K:KT ρ):zt2 N 15 (zea u0 a b c f g h d e) f118lE K =
 z0r.Z10 N a b c f g h d e (λi d e a b c=>K .ret (f118s5 u0 i d e a b c)):=by kernel_rfl
def f118t4 N u0 i a b c d e f g h (K:KT ρ):=vQ (λk=>z0r.Z5 N i a b c d e f g h k) (f118t5 N u0 i a b c d e f g h _) (fx8 λa b c d e f g h=>f118t10 N u0 a b c d e f g h K)
def f118t2 N u0 a b c d e f g h (K:KT ρ):=vQ (λk=>z0r.Z3 N a b c d e f g h k) (f118t3 N u0 a b c d e f g h _) (fx9 λi a b c d e f g h=>f118t4 N u0 i a b c d e f g h K)
def f118t0 N u0 b0 r0 a (K:KT ρ):=vQ (λk=>z0r.Z1 N b0 r0 a k) (f118t1 N u0 b0 r0 a _) (fx8 λb c d e f g h i=>f118t2 N u0 b c d e f g h i K)
def f118ok(h:z0r.Spec):z24 Tryz.prog 118 e118 :=
 okV Tryz.func118 z2w f118GOk (λN u X K=>f118t0 N u X.1.1.1 X.1.2 X.2.1 K) (by kernel_rfl) λu0 X hb1 hb2 hp=>by
  obtain⟨⟨⟨b0,_⟩,r0⟩,a,_⟩:=X
  obtain⟨N,h⟩:=h [u0] b0 r0 a hb1.1 hb2.1 hp
  exact⟨N,Eq.trans (by kernel_rfl) (h N (Nat.le_refl N))⟩
def e118ok:z24 Tryz.prog 118 e118:=f118ok z0r.ok
end Go.Fw
namespace Go.Fw
variable {ρ : Type}
open Go.Proofs
def f82k:z9a:=⟨98,[(5,.int .u8)],.pair (.int .i64) (.int .i64)⟩
def f82ps:List PT:=[⟨.int .i64,false,false⟩]
def f82rs:List PT:=[⟨.pair (.int .i64) (.pair (.int .i64) (.sl 3 (.int .i64))),true,false⟩,⟨.str,false,false⟩]
def e82:z42:=⟨f82k,f82ps,true,f82rs,(some λX=>z1q.P X.1.1.1 X.1.2 X.2.1),λX=>((z1q.g X.1.1.1 X.1.2 X.2.1).1,((),((z1q.g X.1.1.1 X.1.2 X.2.1).2.1,((z1q.g X.1.1.1 X.1.2 X.2.1).2.2,()))))⟩
def f82G:Gm:=addV (addV z1v 117 e117) 118 e118
def f82GOk:GOk Tryz.prog f82G:=((GOk.nil).addV e117ok (by kernel_rfl)).addV e118ok (by kernel_rfl)
def f82lE:z01:=⟨[],[],[],[],[]⟩
def f82s0(u0:Value)(b0:List Int)(r0:Int×Int)(a:Int):St:=z33 f82k f82ps [u0] (((b0,()),r0),(a,()))
def f82s1(u0:Value)(a:LI)(b:ByteArray)(d e:Int)(f:List Int)(g h:Int):St:=z1h [(4,xb 4),(5,.c (.str b)),(100000,xb 100000)] [(4,(27,[yi d,yi e,.own 20000258])),(100000,(98,[.bor u0 5 (.int .u8) f,yi g,yi h]))] [(20000258,(⟨3,.int .i64,a,true,false⟩:Row))]
def f82l1:z01:=⟨[4,5,100000],[4,100000],[],[],[(⟨true,4,2⟩,20000258)]⟩
def f82B:Nat->Option z01:=z1i [(1000000,f82l1)]
abbrev f82j{ρ:Type}(N n:Nat)(σ:St)(l:z01)(K:KT ρ):Option ρ:=z0w f82G tab f82B N (z2o 99 (z1x Tryz.f82) n) .n σ (z1f (some l) K)
def f82t0 N u0 b0 r0 a (K:KT ρ):f82j N 1 (f82s0 u0 b0 r0 a) f82lE K =
 z1q.Z0 N b0 r0 a (λb c d e f g h=>K .ret (f82s1 u0 b c d e f g h)):=by kernel_rfl
def f82ok(h:z1q.Spec):z24 Tryz.prog 82 e82 :=
 okV Tryz.func82 z2w f82GOk (λN u X K=>f82t0 N u X.1.1.1 X.1.2 X.2.1 K) (by kernel_rfl) λu0 X hb1 hb2 hp=>by
  obtain⟨⟨⟨b0,_⟩,r0⟩,a,_⟩:=X
  obtain⟨N,h⟩:=h [u0] b0 r0 a hb1.1 hp
  exact⟨N,Eq.trans (by kernel_rfl) (h N (Nat.le_refl N))⟩
def e82ok:z24 Tryz.prog 82 e82:=f82ok z1q.ok
end Go.Fw
namespace Go.Fw
variable {ρ : Type}
open Go.Proofs
def f56k:z9a:=⟨98,[(5,.int .u8)],.pair (.int .i64) (.int .i64)⟩
def f56ps:List PT:=[]
def f56rs:List PT:=[⟨.pair (.int .i64) (.pair (.int .i64) (.sl 3 (.int .i64))),true,false⟩]
def e56:z42:=⟨f56k,f56ps,true,f56rs,(some λX=>z05.P X.1.1.1 X.1.2),λX=>((z05.g X.1.1.1 X.1.2).1,((),((z05.g X.1.1.1 X.1.2).2,())))⟩
def f56G:Gm:=addV (addV (addV z1v 59 e59) 82 e82) 97 e97
def f56GOk:GOk Tryz.prog f56G:=(((GOk.nil).addV e59ok (by kernel_rfl)).addV e82ok (by kernel_rfl)).addV e97ok (by kernel_rfl)
def f56lE:z01:=⟨[],[],[],[],[]⟩
def f56s0(u0:Value)(b0:List Int)(r0:Int×Int):St:=z33 f56k f56ps [u0] (((b0,()),r0),())
def f56s1(u0:Value)(a:LI)(b c:Int)(d:List Int)(e f:Int):St:=z1h [(2,xb 2),(100000,xb 100000)] [(2,(27,[yi b,yi c,.own 20000130])),(100000,(98,[.bor u0 5 (.int .u8) d,yi e,yi f]))] [(20000130,(⟨3,.int .i64,a,true,false⟩:Row))]
def f56l1:z01:=⟨[2,100000],[2,100000],[],[],[(⟨true,2,2⟩,20000130)]⟩
def f56B:Nat->Option z01:=z1i [(1000000,f56l1)]
abbrev f56j{ρ:Type}(N n:Nat)(σ:St)(l:z01)(K:KT ρ):Option ρ:=z0w f56G tab f56B N (z2o 99 (z1x Tryz.f56) n) .n σ (z1f (some l) K)
def f56t0 N u0 b0 r0 (K:KT ρ):f56j N 1 (f56s0 u0 b0 r0) f56lE K =
 z05.Z0 N b0 r0 (λa b c d e f=>K .ret (f56s1 u0 a b c d e f)):=by kernel_rfl
def f56ok(h:z05.Spec):z24 Tryz.prog 56 e56 :=
 okV Tryz.func56 z2w f56GOk (λN u X K=>f56t0 N u X.1.1.1 X.1.2 K) (by kernel_rfl) λu0 X hb1 hb2 hp=>by
  obtain⟨⟨⟨b0,_⟩,r0⟩,_⟩:=X
  obtain⟨N,h⟩:=h [u0] b0 r0 hb1.1 hp
  exact⟨N,Eq.trans (by kernel_rfl) (h N (Nat.le_refl N))⟩
def e56ok:z24 Tryz.prog 56 e56:=f56ok z05.ok
end Go.Fw
namespace Go.Fw
variable {ρ : Type}
open Go.Proofs
def f55k:z9a:=⟨98,[(5,.int .u8)],.pair (.int .i64) (.int .i64)⟩
def f55ps:List PT:=[⟨.pair (.int .i64) (.pair (.int .i64) (.sl 3 (.int .i64))),true,false⟩]
def f55rs:List PT:=[⟨.pair (.int .i64) (.pair (.int .i64) (.sl 3 (.int .i64))),true,false⟩]
def e55:z42:=⟨f55k,f55ps,true,f55rs,(some λX=>z0b.P X.1.1.1 X.1.2 X.2.1),λX=>((z0b.g X.1.1.1 X.1.2 X.2.1).1,((),((z0b.g X.1.1.1 X.1.2 X.2.1).2,())))⟩
def f55G:Gm:=addV (z3s z1v 70 e70) 96 e96
def f55GOk:GOk Tryz.prog f55G:=((GOk.nil).add ztt (by kernel_rfl)).addV zf9 (by kernel_rfl)
def f55lE:z01:=⟨[],[],[],[],[]⟩
def f55s0(u0:Value)(b0:List Int)(r0:Int×Int)(a:MT):St:=z33 f55k f55ps [u0] (((b0,()),r0),(a,()))
def f55s1(u0:Value)(a:List Int)(b c d e:Int)(f:LI)(g h:Int):St:=z1h [(0,xb 100000),(3,xb 3),(4,xb 4),(100000,xb 100000)] [(100000,(98,[.bor u0 5 (.int .u8) a,yi b,yi c])),(3,(27,[yi d,yi e,.sn 3 tI f none])),(4,(27,[yi g,yi h,.nil]))] []
def f55l1:z01:=⟨[0,3,4,100000],[100000,3,4],[],[],[]⟩
def f55s2(u0:Value)(a:LI)(b:List Int)(c d e f:Int)(g:LI)(h i j l:Int):St:=z1h [(0,xb 100000),(3,xb 3),(4,xb 4),(5,xb 5),(100000,xb 100000)] [(100000,(98,[.bor u0 5 (.int .u8) b,yi c,yi d])),(3,(27,[yi e,yi f,.sn 3 tI g none])),(4,(27,[yi h,yi i,.nil])),(5,(27,[yi j,yi l,.own 20000322]))] [(20000322,(⟨3,.int .i64,a,true,false⟩:Row))]
def f55l2:z01:=⟨[0,3,4,5,100000],[100000,3,4,5],[],[],[(⟨true,5,2⟩,20000322)]⟩
def f55s3(u0:Value)(a:LI)(b:Int)(c:List Int)(d e f g:Int)(h:LI)(i j l m:Int):St:=z1h [(0,xb 100000),(3,xb 3),(4,xb 4),(5,xb 5),(6,xi b),(100000,xb 100000)] [(100000,(98,[.bor u0 5 (.int .u8) c,yi d,yi e])),(3,(27,[yi f,yi g,.sn 3 tI h none])),(4,(27,[yi i,yi j,.nil])),(5,(27,[yi l,yi m,.own 20000322]))] [(20000322,(⟨3,.int .i64,a,true,false⟩:Row))]
def f55l3:z01:=⟨[0,3,4,5,6,100000],[100000,3,4,5],[],[],[(⟨true,5,2⟩,20000322)]⟩
def zb1(u0:Value)(a:LI)(b c:Int)(d:List Int)(e f g h:Int)(i:LI)(j l m o:Int):St:=z1h [(0,xb 100000),(3,xb 3),(4,xb 4),(5,xb 5),(6,xi b),(7,xi c),(100000,xb 100000)] [(100000,(98,[.bor u0 5 (.int .u8) d,yi e,yi f])),(3,(27,[yi g,yi h,.sn 3 tI i none])),(4,(27,[yi j,yi l,.nil])),(5,(27,[yi m,yi o,.own 20000322]))] [(20000322,(⟨3,.int .i64,a,true,false⟩:Row))]
def zhl:z01:=⟨[0,3,4,5,6,7,100000],[100000,3,4,5],[],[],[(⟨true,5,2⟩,20000322)]⟩
def f55s5(u0:Value)(a:LI)(b c d:Int)(e:List Int)(f g h i:Int)(j:LI)(l m o p:Int):St:=z1h [(0,xb 100000),(3,xb 3),(4,xb 4),(5,xb 5),(6,xi b),(7,xi c),(8,xi d),(100000,xb 100000)] [(100000,(98,[.bor u0 5 (.int .u8) e,yi f,yi g])),(3,(27,[yi h,yi i,.sn 3 tI j none])),(4,(27,[yi l,yi m,.nil])),(5,(27,[yi o,yi p,.own 20000322]))] [(20000322,(⟨3,.int .i64,a,true,false⟩:Row))]
def f55l5:z01:=⟨[0,3,4,5,6,7,8,100000],[100000,3,4,5],[],[],[(⟨true,5,2⟩,20000322)]⟩
def zpm(u0:Value)(a:LI)(b c d e:Int)(f:List Int)(g h:Int):St:=z1h [(4,xb 4),(5,xb 5),(100000,xb 100000)] [(4,(27,[yi b,yi c,.nil])),(5,(27,[yi d,yi e,.own 20000322])),(100000,(98,[.bor u0 5 (.int .u8) f,yi g,yi h]))] [(20000322,(⟨3,.int .i64,a,true,false⟩:Row))]
def f55l6:z01:=⟨[4,5,100000],[4,5,100000],[],[],[(⟨true,5,2⟩,20000322)]⟩
def f55s7(u0:Value)(a:LI)(b c:Int)(d:List Int)(e f:Int):St:=z1h [(4,xb 4),(100000,xb 100000)] [(4,(27,[yi b,yi c,.own 20000258])),(100000,(98,[.bor u0 5 (.int .u8) d,yi e,yi f]))] [(20000258,(⟨3,.int .i64,a,true,false⟩:Row))]
def f55l7:z01:=⟨[4,100000],[4,100000],[],[],[(⟨true,4,2⟩,20000258)]⟩
def f55B:Nat->Option z01:=z1i [(2,zhl),(1,zhl),(0,f55l6),(1000000,f55l7)]
abbrev f55j{ρ:Type}(N n:Nat)(σ:St)(l:z01)(K:KT ρ):Option ρ:=z0w f55G tab f55B N (z2o 99 (z1x Tryz.f55) n) .n σ (z1f (some l) K)
def f55t1 N u0 b0 r0 a (K:KT ρ):f55j N 2 (f55s0 u0 b0 r0 a) f55l1 K =
 z0b.Z1 N b0 r0 a (λb c d e f g h i=>K .nrm (f55s1 u0 b c d e f g h i)):=by kernel_rfl
def f55t3 N u0 a b c d e f g h (K:KT ρ):f55j N 5 (f55s1 u0 a b c d e f g h) f55l2 K =
 z0b.Z3 N a b c d e f g h (λi a b c d e f g h j l=>K .nrm (f55s2 u0 i a b c d e f g h j l)):=by kernel_rfl
def f55t5 N u0 a b c d e f g h i j l (K:KT ρ):f55j N 11 (f55s2 u0 a b c d e f g h i j l) f55l3 K =
 z0b.Z5 N a b c d e f g h i j l (λa m b c d e f g h i j l=>K .nrm (f55s3 u0 a m b c d e f g h i j l)):=by kernel_rfl
def f55t8 N u0 a b c d e f g h i j l m (K:KT ρ):f55j N 39 (f55s3 u0 a b c d e f g h i j l m) zhl K =
 z0b.Z8 N a b c d e f g h i j l m (λa b o c d e f g h i j l m=>K .nrm (zb1 u0 a b o c d e f g h i j l m)):=by kernel_rfl
def f55t12 N u0 a i j b c d l m o e f g h (K:KT ρ):f55j N 279 (zb1 u0 a i j b c d l m o e f g h) zhl K =
 z0b.Z12 N a i j b c d l m o e f g h (λa i j b c d l m o e f g h=>K .nrm (zb1 u0 a i j b c d l m o e f g h)) (λa e f g h b c d=>K (.exit 0) (zpm u0 a e f g h b c d)):=by kernel_rfl
def f55t17 N u0 a b c d e f g h i j l m o (K:KT ρ):f55j N 4247 (zb1 u0 a b c d e f g h i j l m o) f55l5 K =
 z0b.Z17 N a b c d e f g h i j l m o (λa b c p d e f g h i j l m o=>K .nrm (f55s5 u0 a b c p d e f g h i j l m o)):=by kernel_rfl
def f55t20 N u0 a b c p d e f g h i j l m o (K:KT ρ):f55j N 18583 (f55s5 u0 a b c p d e f g h i j l m o) f55l5 K =
 z0b.Z20 N a b c p d e f g h i j l m o (λa b c p d e f g h i j l m o=>K .nrm (f55s5 u0 a b c p d e f g h i j l m o)) (λa b c d e f g h i j l m o=>K (.exit 2) (zb1 u0 a b c d e f g h i j l m o)):=by kernel_rfl
def f55t19L N u0 (K:KT ρ):=lp14 K (z0b.Z19L N (λa b c d e f g h i j l m o=>K (.exit 2) (zb1 u0 a b c d e f g h i j l m o))) (λa b c p d e f g h i j l m o k=>z0b.Z20 N a b c p d e f g h i j l m o k (λa b c d e f g h i j l m o=>K (.exit 2) (zb1 u0 a b c d e f g h i j l m o))) (λF a b c p d e f g h i j l m o=>f55t20 N u0 a b c p d e f g h i j l m o _) (by kernel_rfl)
def f55t19 N u0 a b c d e f g h i j l m o p (K:KT ρ):=vL (f55s5 u0 a b c d e f g h i j l m o p) (f55t19L N u0 (jK zhl K) N a b c d e f g h i j l m o p) (by kernel_rfl)
def f55t18 N u0 a b c p d e f g h i j l m o (K:KT ρ):=vB 2 zhl K (z0b.Z18 N a b c p d e f g h i j l m o (λa b c d e f g h i j l m o=>K .nrm (zb1 u0 a b c d e f g h i j l m o))) (f55t19 N u0 a b c p d e f g h i j l m o _) (by kernel_rfl)
def f55t16 N u0 a b c d e f g h i j l m o (K:KT ρ):=vQ (λk=>z0b.Z17 N a b c d e f g h i j l m o k) (f55t17 N u0 a b c d e f g h i j l m o _) (fx14 λa b c p d e f g h i j l m o=>f55t18 N u0 a b c p d e f g h i j l m o K)
def f55t21 N u0 a b c d e f g h i j l m o (K:KT ρ):f55j N 3223 (zb1 u0 a b c d e f g h i j l m o) zhl K =
 z0b.Z21 N a b c d e f g h i j l m o (λa b c d e f g h i j l m o=>K .nrm (zb1 u0 a b c d e f g h i j l m o)):=by kernel_rfl
def f55t15 N u0 a b c d e f g h i j l m o (K:KT ρ):=vQ (λk=>z0b.Z16 N a b c d e f g h i j l m o k) (f55t16 N u0 a b c d e f g h i j l m o _) (fx13 λa b c d e f g h i j l m o=>f55t21 N u0 a b c d e f g h i j l m o K)
def f55t14 N u0 a b c d e f g h i j l m o (K:KT ρ):=vB 1 zhl K (z0b.Z14 N a b c d e f g h i j l m o (λa b c d e f g h i j l m o=>K .nrm (zb1 u0 a b c d e f g h i j l m o))) (f55t15 N u0 a b c d e f g h i j l m o _) (by kernel_rfl)
def f55t22 N u0 a b c d e f g h i j l m o (K:KT ρ):f55j N 919 (zb1 u0 a b c d e f g h i j l m o) zhl K =
 z0b.Z22 N a b c d e f g h i j l m o (λa b c d e f g h i j l m o=>K .nrm (zb1 u0 a b c d e f g h i j l m o)):=by kernel_rfl
def f55t13 N u0 a b c d e f g h i j l m o (K:KT ρ):=vQ (λk=>z0b.Z14 N a b c d e f g h i j l m o k) (f55t14 N u0 a b c d e f g h i j l m o _) (fx13 λa b c d e f g h i j l m o=>f55t22 N u0 a b c d e f g h i j l m o K)
def f55t11 N u0 a i j b c d l m o e f g h (K:KT ρ):=vQ (λk=>z0b.Z12 N a i j b c d l m o e f g h k (λa e f g h b c d=>K (.exit 0) (zpm u0 a e f g h b c d))) (f55t12 N u0 a i j b c d l m o e f g h _) (fx13 λa i j b c d l m o e f g h=>f55t13 N u0 a i j b c d l m o e f g h K)
def f55t10L N u0 (K:KT ρ):=lp13 K (z0b.Z10L N (λa b c d e f g h=>K (.exit 0) (zpm u0 a b c d e f g h))) (λa i j f g h l m o b c d e k=>z0b.Z11 N a i j f g h l m o b c d e k (λa b c d e f g h=>K (.exit 0) (zpm u0 a b c d e f g h))) (λF a i j f g h l m o b c d e=>f55t11 N u0 a i j f g h l m o b c d e _) (by kernel_rfl)
def f55t10 N u0 a b c d e f g h i j l m o (K:KT ρ):=vL (zb1 u0 a b c d e f g h i j l m o) (f55t10L N u0 (jK f55l6 K) N a b c d e f g h i j l m o) (by kernel_rfl)
def f55t9 N u0 a i j b c d l m o e f g h (K:KT ρ):=vB 0 f55l6 K (z0b.Z9 N a i j b c d l m o e f g h (λa e f g h b c d=>K .nrm (zpm u0 a e f g h b c d))) (f55t10 N u0 a i j b c d l m o e f g h _) (by kernel_rfl)
def f55t7 N u0 a b c d e f g h i j l m (K:KT ρ):=vQ (λk=>z0b.Z8 N a b c d e f g h i j l m k) (f55t8 N u0 a b c d e f g h i j l m _) (fx13 λa b o c d e f g h i j l m=>f55t9 N u0 a b o c d e f g h i j l m K)
def f55t23 N u0 f a b g h c d e (K:KT ρ):f55j N 31 (zpm u0 f a b g h c d e) f55lE K =
 z0b.Z23 N f a b g h c d e (λi a b c d e=>K .ret (f55s7 u0 i a b c d e)):=by kernel_rfl
def f55t6 N u0 a i b c d j l m e f g h (K:KT ρ):=vQ (λk=>z0b.Z7 N a i b c d j l m e f g h k) (f55t7 N u0 a i b c d j l m e f g h _) (fx8 λa e f g h b c d=>f55t23 N u0 a e f g h b c d K)
def f55t4 N u0 a b c d e f g h i j l (K:KT ρ):=vQ (λk=>z0b.Z5 N a b c d e f g h i j l k) (f55t5 N u0 a b c d e f g h i j l _) (fx12 λa m b c d e f g h i j l=>f55t6 N u0 a m b c d e f g h i j l K)
def f55t2 N u0 a b c d e f g h (K:KT ρ):=vQ (λk=>z0b.Z3 N a b c d e f g h k) (f55t3 N u0 a b c d e f g h _) (zq7 λi a b c d e f g h j l=>f55t4 N u0 i a b c d e f g h j l K)
def f55t0 N u0 b0 r0 a (K:KT ρ):=vQ (λk=>z0b.Z1 N b0 r0 a k) (f55t1 N u0 b0 r0 a _) (fx8 λb c d e f g h i=>f55t2 N u0 b c d e f g h i K)
def f55ok(h:z0b.Spec):z24 Tryz.prog 55 e55 :=
 okV Tryz.func55 z2w f55GOk (λN u X K=>f55t0 N u X.1.1.1 X.1.2 X.2.1 K) (by kernel_rfl) λu0 X hb1 hb2 hp=>by
  obtain⟨⟨⟨b0,_⟩,r0⟩,a,_⟩:=X
  obtain⟨N,h⟩:=h [u0] b0 r0 a hb1.1 hb2.1 hp
  exact⟨N,Eq.trans (by kernel_rfl) (h N (Nat.le_refl N))⟩
def e55ok:z24 Tryz.prog 55 e55:=f55ok z0b.ok
end Go.Fw
namespace Go.Fw
variable {ρ : Type}
open Go.Proofs
def f98k:z9a:=⟨98,[(5,.int .u8)],.pair (.int .i64) (.int .i64)⟩
def f98ps:List PT:=[⟨.sl 3 (.int .i64),false,false⟩]
def f98rs:List PT:=[⟨.int .i64,false,false⟩]
def e98:z42:=⟨f98k,f98ps,true,f98rs,(some λX=>z26.P X.1.1.1 X.1.2 X.2.1),λX=>((z26.g X.1.1.1 X.1.2 X.2.1).1,((),((z26.g X.1.1.1 X.1.2 X.2.1).2,())))⟩
def f98G:Gm:=addV z1v 96 e96
def f98GOk:GOk Tryz.prog f98G:=(GOk.nil).addV zf9 (by kernel_rfl)
def f98lE:z01:=⟨[],[],[],[],[]⟩
def f98s0(u0:Value)(b0:List Int)(r0:Int×Int)(a:LI):St:=z33 f98k f98ps [u0] (((b0,()),r0),(a,()))
def f98s1(u0:Value)(a:Int)(b:List Int)(c d:Int):St:=z1h [(4,xi a),(100000,xb 100000)] [(100000,(98,[.bor u0 5 (.int .u8) b,yi c,yi d]))] []
def f98l1:z01:=⟨[4,100000],[100000],[],[],[]⟩
def f98B:Nat->Option z01:=z1i [(1000000,f98l1)]
abbrev f98j{ρ:Type}(N n:Nat)(σ:St)(l:z01)(K:KT ρ):Option ρ:=z0w f98G tab f98B N (z2o 99 (z1x Tryz.f98) n) .n σ (z1f (some l) K)
def f98t0 N u0 b0 r0 a (K:KT ρ):f98j N 1 (f98s0 u0 b0 r0 a) f98lE K =
 z26.Z0 N b0 r0 a (λb c d e=>K .ret (f98s1 u0 b c d e)):=by kernel_rfl
def f98ok(h:z26.Spec):z24 Tryz.prog 98 e98 :=
 okV Tryz.func98 z2w f98GOk (λN u X K=>f98t0 N u X.1.1.1 X.1.2 X.2.1 K) (by kernel_rfl) λu0 X hb1 hb2 hp=>by
  obtain⟨⟨⟨b0,_⟩,r0⟩,a,_⟩:=X
  obtain⟨N,h⟩:=h [u0] b0 r0 a hb1.1 hb2.1 hp
  exact⟨N,Eq.trans (by kernel_rfl) (h N (Nat.le_refl N))⟩
def e98ok:z24 Tryz.prog 98 e98:=f98ok z26.ok
end Go.Fw
namespace Go.Fw
variable {ρ : Type}
open Go.Proofs
def f57k:z9a:=⟨98,[(5,.int .u8)],.pair (.int .i64) (.int .i64)⟩
def f57ps:List PT:=[⟨.pair (.int .i64) (.pair (.int .i64) (.sl 3 (.int .i64))),true,true⟩]
def f57rs:List PT:=[⟨.pair (.int .i64) (.pair (.int .i64) (.sl 3 (.int .i64))),true,false⟩]
def e57:z42:=⟨f57k,f57ps,false,f57rs,(some λX=>z32.P X.1.1.1 X.1.2 X.2.1),λX=>((z32.g X.1.1.1 X.1.2 X.2.1).1,((),((z32.g X.1.1.1 X.1.2 X.2.1).2,())))⟩
def f57G:Gm:=addV (addV (z3s (addV z1v 59 e59) 70 e70) 96 e96) 98 e98
def f57GOk:GOk Tryz.prog f57G:=((((GOk.nil).addV e59ok (by kernel_rfl)).add ztt (by kernel_rfl)).addV zf9 (by kernel_rfl)).addV e98ok (by kernel_rfl)
def f57lE:z01:=⟨[],[],[],[],[]⟩
def f57s0(u0:Value)(b0:List Int)(r0:Int×Int)(a:MT):St:=z33 f57k f57ps [u0] (((b0,()),r0),(a,()))
def f57s1(u0:Value)(a:LI)(b c:Int)(d:List Int)(e f:Int):St:=z1h [(4,xb 4),(100000,xb 100000)] [(4,(27,[yi b,yi c,.own 20000258])),(100000,(98,[.bor u0 5 (.int .u8) d,yi e,yi f]))] [(20000258,(⟨3,.int .i64,a,true,false⟩:Row))]
def f57l1:z01:=⟨[4,100000],[4,100000],[],[],[(⟨true,4,2⟩,20000258)]⟩
def f57B:Nat->Option z01:=z1i [(1000000,f57l1)]
abbrev f57j{ρ:Type}(N n:Nat)(σ:St)(l:z01)(K:KT ρ):Option ρ:=z0w f57G tab f57B N (z2o 99 (z1x Tryz.f57) n) .n σ (z1f (some l) K)
def f57t0 N u0 b0 r0 a (K:KT ρ):f57j N 1 (f57s0 u0 b0 r0 a) f57lE K =
 z32.Z0 N b0 r0 a (λb c d e f g=>K .ret (f57s1 u0 b c d e f g)):=by kernel_rfl
def f57ok(h:z32.Spec):z24 Tryz.prog 57 e57 :=
 okV Tryz.func57 z2w f57GOk (λN u X K=>f57t0 N u X.1.1.1 X.1.2 X.2.1 K) (by kernel_rfl) λu0 X hb1 hb2 hp=>by
  obtain⟨⟨⟨b0,_⟩,r0⟩,a,_⟩:=X
  obtain⟨N,h⟩:=h [u0] b0 r0 a hb1.1 hb2.1 hp
  exact⟨N,Eq.trans (by kernel_rfl) (h N (Nat.le_refl N))⟩
def e57ok:z24 Tryz.prog 57 e57:=f57ok z32.ok
end Go.Fw
namespace Go.Fw
variable {ρ : Type}
open Go.Proofs
def f21sig:Sig:=⟨[⟨.sl 5 (.int .u8),false,false⟩],[⟨.pair (.int .i64) (.pair (.int .i64) (.sl 3 (.int .i64))),true,false⟩]⟩
def e21:z2j:=⟨f21sig,none,λX=>((),((z0q.g X.1),()))⟩
def f21G:Gm:=addV (addV (addV (addN z1v 54 e54) 55 e55) 56 e56) 57 e57
def f21GOk:GOk Tryz.prog f21G:=((((GOk.nil).addN e54ok).addV e55ok (by kernel_rfl)).addV e56ok (by kernel_rfl)).addV e57ok (by kernel_rfl)
def f21lE:z01:=⟨[],[],[],[],[]⟩
def f21s0(a:List Int):St:=z2e f21sig.ps (a,())
def f21s1(a:LI)(b c:Int):St:=z1h [(2,xb 2)] [(2,(27,[yi b,yi c,.own 20000130]))] [(20000130,(⟨3,.int .i64,a,true,false⟩:Row))]
def f21l1:z01:=⟨[2],[2],[],[],[(⟨true,2,2⟩,20000130)]⟩
def f21B:Nat->Option z01:=z1i [(1000000,f21l1)]
abbrev f21j{ρ:Type}(N n:Nat)(σ:St)(l:z01)(K:KT ρ):Option ρ:=z0w f21G tab f21B N (z2o 99 (z1x Tryz.f21) n) .n σ (z1f (some l) K)
def f21t0 N a (K:KT ρ):f21j N 1 (f21s0 a) f21lE K =
 z0q.Z0 N a (λb c d=>K .ret (f21s1 b c d)):=by kernel_rfl
def f21ok(h:z0q.Spec):z0l Tryz.prog 21 e21 :=
 okC Tryz.func21 z2w f21GOk (λN X K=>f21t0 N X.1 K) (by kernel_rfl) λX hb hp=>by
  obtain⟨a,_⟩:=X
  obtain⟨N,h⟩:=h a hb.1
  exact⟨N,Eq.trans (by kernel_rfl) (h N (Nat.le_refl N))⟩
def e21ok:z0l Tryz.prog 21 e21:=f21ok z0q.ok
end Go.Fw
namespace Go.Fw
variable {ρ : Type}
open Go.Proofs
def f99sig:Sig:=⟨[⟨.sl 3 (.int .i64),false,false⟩],[⟨.str,false,false⟩]⟩
def e99:z2j:=⟨f99sig,(some λX=>z11.P X.1),λX=>((),((z11.g X.1),()))⟩
def f99G:Gm:=z3s z1v 108 e108
def f99GOk:GOk Tryz.prog f99G:=(GOk.nil).add e108ok (by kernel_rfl)
def f99lE:z01:=⟨[],[],[],[],[]⟩
def f99s0(a:LI):St:=z2e f99sig.ps (a,())
def f99s1(a:LI):St:=z1h [(0,.c (.sn 3 tI a none))] [] []
def f99l1:z01:=⟨[0],[],[],[],[]⟩
def f99s2(a:LI)(b:ByteArray):St:=z1h [(0,.c (.sn 3 tI a none)),(3,.c (.str b))] [] []
def f99l2:z01:=⟨[0,3],[],[],[],[]⟩
def f99s3(a:LI)(b:ByteArray)(d:Int):St:=z1h [(0,.c (.sn 3 tI a none)),(3,.c (.str b)),(4,xi d)] [] []
def f99l3:z01:=⟨[0,3,4],[],[],[],[]⟩
def zsb(a:ByteArray):St:=z1h [(3,.c (.str a))] [] []
def f99l4:z01:=⟨[3],[],[],[],[]⟩
def f99s5(a:ByteArray):St:=z1h [(2,.c (.str a))] [] []
def f99l5:z01:=⟨[2],[],[],[],[]⟩
def f99B:Nat->Option z01:=z1i [(0,f99l4),(1000000,f99l5)]
abbrev f99j{ρ:Type}(N n:Nat)(σ:St)(l:z01)(K:KT ρ):Option ρ:=z0w f99G tab f99B N (z2o 99 (z1x Tryz.f99) n) .n σ (z1f (some l) K)
def f99t1 N a (K:KT ρ):f99j N 2 (f99s0 a) f99l1 K =
 z11.Z1 N a (λa=>K .nrm (f99s1 a)):=by kernel_rfl
def f99t3 N a (K:KT ρ):f99j N 5 (f99s1 a) f99l2 K =
 z11.Z3 N a (λa b=>K .nrm (f99s2 a b)):=by kernel_rfl
def f99t6 N a b (K:KT ρ):f99j N 19 (f99s2 a b) f99l3 K =
 z11.Z6 N a b (λa b c=>K .nrm (f99s3 a b c)):=by kernel_rfl
def f99t9 N b a c (K:KT ρ):f99j N 75 (f99s3 b a c) f99l3 K =
 z11.Z9 N b a c (λb a c=>K .nrm (f99s3 b a c)) (λa=>K (.exit 0) (zsb a)):=by kernel_rfl
def f99t8L N (K:KT ρ):=lp3 K (z11.Z8L N (λa=>K (.exit 0) (zsb a))) (λb a c k=>z11.Z9 N b a c k (λa=>K (.exit 0) (zsb a))) (λF b a c=>f99t9 N b a c _) (by kernel_rfl)
def f99t8 N a b c (K:KT ρ):=vL (f99s3 a b c) (f99t8L N (jK f99l4 K) N a b c) (by kernel_rfl)
def f99t7 N b a c (K:KT ρ):=vB 0 f99l4 K (z11.Z7 N b a c (λa=>K .nrm (zsb a))) (f99t8 N b a c _) (by kernel_rfl)
def f99t5 N a b (K:KT ρ):=vQ (λk=>z11.Z6 N a b k) (f99t6 N a b _) (fx3 λa b c=>f99t7 N a b c K)
def f99t10 N a (K:KT ρ):f99j N 15 (zsb a) f99lE K =
 z11.Z10 N a (λb=>K .ret (f99s5 b)):=by kernel_rfl
def f99t4 N b a (K:KT ρ):=vQ (λk=>z11.Z5 N b a k) (f99t5 N b a _) (funext λa=>f99t10 N a K)
def f99t2 N a (K:KT ρ):=vQ (λk=>z11.Z3 N a k) (f99t3 N a _) (fx2 λa b=>f99t4 N a b K)
def f99t0 N a (K:KT ρ):=vQ (λk=>z11.Z1 N a k) (f99t1 N a _) (funext λa=>f99t2 N a K)
def f99ok(h:z11.Spec):z0l Tryz.prog 99 e99 :=
 okC Tryz.func99 z2w f99GOk (λN X K=>f99t0 N X.1 K) (by kernel_rfl) λX hb hp=>by
  obtain⟨a,_⟩:=X
  obtain⟨N,h⟩:=h a hb.1 hp
  exact⟨N,Eq.trans (by kernel_rfl) (h N (Nat.le_refl N))⟩
def e99ok:z0l Tryz.prog 99 e99:=f99ok z11.ok
end Go.Fw
namespace Go.Fw
variable {ρ : Type}
open Go.Proofs
def f58sig:Sig:=⟨[⟨.pair (.int .i64) (.pair (.int .i64) (.sl 3 (.int .i64))),true,false⟩],[⟨.str,false,false⟩]⟩
def e58:z2j:=⟨f58sig,none,λX=>((),((z0o.g X.1),()))⟩
def f58G:Gm:=z3s (z3s z1v 25 e25) 99 e99
def f58GOk:GOk Tryz.prog f58G:=((GOk.nil).add e25ok (by kernel_rfl)).add e99ok (by kernel_rfl)
def f58lE:z01:=⟨[],[],[],[],[]⟩
def f58s0(a:MT):St:=z2e f58sig.ps (a,())
def f58s1(a b:Int)(c:LI):St:=z1h [(1,xb 1)] [(1,(27,[yi a,yi b,.sn 3 tI c none]))] []
def f58l1:z01:=⟨[1],[1],[],[],[]⟩
def f58s2(a:ByteArray)(b d:Int)(e:LI):St:=z1h [(1,xb 1),(3,.c (.str a))] [(1,(27,[yi b,yi d,.sn 3 tI e none]))] []
def f58l2:z01:=⟨[1,3],[1],[],[],[]⟩
def f58s3(a:ByteArray)(b d e:Int)(f:LI):St:=z1h [(1,xb 1),(3,.c (.str a)),(4,xi b)] [(1,(27,[yi d,yi e,.sn 3 tI f none]))] []
def f58l3:z01:=⟨[1,3,4],[1],[],[],[]⟩
def zsl(a:ByteArray):St:=z1h [(3,.c (.str a))] [] []
def f58l4:z01:=⟨[3],[],[],[],[]⟩
def f58s5(a:ByteArray):St:=z1h [(2,.c (.str a))] [] []
def f58l5:z01:=⟨[2],[],[],[],[]⟩
def f58B:Nat->Option z01:=z1i [(0,f58l4),(1000000,f58l5)]
abbrev f58j{ρ:Type}(N n:Nat)(σ:St)(l:z01)(K:KT ρ):Option ρ:=z0w f58G tab f58B N (z2o 99 (z1x Tryz.f58) n) .n σ (z1f (some l) K)
def f58t1 N a (K:KT ρ):f58j N 2 (f58s0 a) f58l1 K =
 z0o.Z1 N a (λb c d=>K .nrm (f58s1 b c d)):=by kernel_rfl
def f58t3 N a b c (K:KT ρ):f58j N 5 (f58s1 a b c) f58l1 K =
 z0o.Z3 N a b c (λa b c=>K .nrm (f58s1 a b c)) (λd=>K .ret (f58s5 d)):=by kernel_rfl
def f58t5 N a b c (K:KT ρ):f58j N 11 (f58s1 a b c) f58l2 K =
 z0o.Z5 N a b c (λd a b c=>K .nrm (f58s2 d a b c)):=by kernel_rfl
def f58t8 N a b c d (K:KT ρ):f58j N 39 (f58s2 a b c d) f58l3 K =
 z0o.Z8 N a b c d (λa e b c d=>K .nrm (f58s3 a e b c d)):=by kernel_rfl
def f58t11 N a b c d e (K:KT ρ):f58j N 151 (f58s3 a b c d e) f58l3 K =
 z0o.Z11 N a b c d e (λa b c d e=>K .nrm (f58s3 a b c d e)) (λa=>K (.exit 0) (zsl a)):=by kernel_rfl
def f58t10L N (K:KT ρ):=lp5 K (z0o.Z10L N (λa=>K (.exit 0) (zsl a))) (λa b c d e k=>z0o.Z11 N a b c d e k (λa=>K (.exit 0) (zsl a))) (λF a b c d e=>f58t11 N a b c d e _) (by kernel_rfl)
def f58t10 N a b c d e (K:KT ρ):=vL (f58s3 a b c d e) (f58t10L N (jK f58l4 K) N a b c d e) (by kernel_rfl)
def f58t9 N a b c d e (K:KT ρ):=vB 0 f58l4 K (z0o.Z9 N a b c d e (λa=>K .nrm (zsl a))) (f58t10 N a b c d e _) (by kernel_rfl)
def f58t7 N a b c d (K:KT ρ):=vQ (λk=>z0o.Z8 N a b c d k) (f58t8 N a b c d _) (fx5 λa e b c d=>f58t9 N a e b c d K)
def f58t12 N a (K:KT ρ):f58j N 31 (zsl a) f58lE K =
 z0o.Z12 N a (λb=>K .ret (f58s5 b)):=by kernel_rfl
def f58t6 N a b c d (K:KT ρ):=vQ (λk=>z0o.Z7 N a b c d k) (f58t7 N a b c d _) (funext λa=>f58t12 N a K)
def f58t4 N a b c (K:KT ρ):=vQ (λk=>z0o.Z5 N a b c k) (f58t5 N a b c _) (fx4 λd a b c=>f58t6 N d a b c K)
def f58t2 N a b c (K:KT ρ):=vQ (λk=>z0o.Z3 N a b c k (λd=>K .ret (f58s5 d))) (f58t3 N a b c _) (fx3 λa b c=>f58t4 N a b c K)
def f58t0 N a (K:KT ρ):=vQ (λk=>z0o.Z1 N a k) (f58t1 N a _) (fx3 λb c d=>f58t2 N b c d K)
def f58ok(h:z0o.Spec):z0l Tryz.prog 58 e58 :=
 okC Tryz.func58 z2w f58GOk (λN X K=>f58t0 N X.1 K) (by kernel_rfl) λX hb hp=>by
  obtain⟨a,_⟩:=X
  obtain⟨N,h⟩:=h a hb.1
  exact⟨N,Eq.trans (by kernel_rfl) (h N (Nat.le_refl N))⟩
def e58ok:z0l Tryz.prog 58 e58:=f58ok z0o.ok
end Go.Fw
namespace Go.Fw
variable {ρ : Type}
open Go.Proofs
def f60k:z9a:=⟨98,[(5,.int .u8)],.pair (.int .i64) (.int .i64)⟩
def f60ps:List PT:=[⟨.sl 9 (.str),false,false⟩]
def f60rs:List PT:=[⟨.str,false,false⟩]
def e60:z42:=⟨f60k,f60ps,true,f60rs,(some λX=>z2i.P X.1.1.1 X.1.2 X.2.1),λX=>((z2i.g X.1.1.1 X.1.2 X.2.1).1,((),((z2i.g X.1.1.1 X.1.2 X.2.1).2,())))⟩
def f60G:Gm:=addV z1v 96 e96
def f60GOk:GOk Tryz.prog f60G:=(GOk.nil).addV zf9 (by kernel_rfl)
def f60lE:z01:=⟨[],[],[],[],[]⟩
def f60s0(u0:Value)(b0:List Int)(r0:Int×Int)(a:List ByteArray):St:=z33 f60k f60ps [u0] (((b0,()),r0),(a,()))
def f60s1(u0:Value)(a:ByteArray)(b:List Int)(d e:Int):St:=z1h [(4,.c (.str a)),(100000,xb 100000)] [(100000,(98,[.bor u0 5 (.int .u8) b,yi d,yi e]))] []
def f60l1:z01:=⟨[4,100000],[100000],[],[],[]⟩
def f60B:Nat->Option z01:=z1i [(1000000,f60l1)]
abbrev f60j{ρ:Type}(N n:Nat)(σ:St)(l:z01)(K:KT ρ):Option ρ:=z0w f60G tab f60B N (z2o 99 (z1x Tryz.f60) n) .n σ (z1f (some l) K)
def f60t0 N u0 b0 r0 a (K:KT ρ):f60j N 1 (f60s0 u0 b0 r0 a) f60lE K =
 z2i.Z0 N b0 r0 a (λb c d e=>K .ret (f60s1 u0 b c d e)):=by kernel_rfl
def f60ok(h:z2i.Spec):z24 Tryz.prog 60 e60 :=
 okV Tryz.func60 z2w f60GOk (λN u X K=>f60t0 N u X.1.1.1 X.1.2 X.2.1 K) (by kernel_rfl) λu0 X hb1 hb2 hp=>by
  obtain⟨⟨⟨b0,_⟩,r0⟩,a,_⟩:=X
  obtain⟨N,h⟩:=h [u0] b0 r0 a hb1.1 hb2.1 hp
  exact⟨N,Eq.trans (by kernel_rfl) (h N (Nat.le_refl N))⟩
def e60ok:z24 Tryz.prog 60 e60:=f60ok z2i.ok
end Go.Fw
namespace Go.Fw
variable {ρ : Type}
open Go.Proofs
def f22sig:Sig:=⟨[⟨.sl 5 (.int .u8),false,false⟩],[⟨.str,false,false⟩]⟩
def e22:z2j:=⟨f22sig,none,λX=>((),((z14.g X.1),()))⟩
def f22G:Gm:=addV (addV (z3s (addV (addV (addN z1v 54 e54) 55 e55) 56 e56) 58 e58) 59 e59) 60 e60
def f22GOk:GOk Tryz.prog f22G:=((((((GOk.nil).addN e54ok).addV e55ok (by kernel_rfl)).addV e56ok (by kernel_rfl)).add e58ok (by kernel_rfl)).addV e59ok (by kernel_rfl)).addV e60ok (by kernel_rfl)
def f22lE:z01:=⟨[],[],[],[],[]⟩
def f22s0(a:List Int):St:=z2e f22sig.ps (a,())
def f22s1(a:ByteArray):St:=z1h [(2,.c (.str a))] [] []
def f22l1:z01:=⟨[2],[],[],[],[]⟩
def f22B:Nat->Option z01:=z1i [(1000000,f22l1)]
abbrev f22j{ρ:Type}(N n:Nat)(σ:St)(l:z01)(K:KT ρ):Option ρ:=z0w f22G tab f22B N (z2o 99 (z1x Tryz.f22) n) .n σ (z1f (some l) K)
def f22t0 N a (K:KT ρ):f22j N 1 (f22s0 a) f22lE K =
 z14.Z0 N a (λb=>K .ret (f22s1 b)):=by kernel_rfl
def f22ok(h:z14.Spec):z0l Tryz.prog 22 e22 :=
 okC Tryz.func22 z2w f22GOk (λN X K=>f22t0 N X.1 K) (by kernel_rfl) λX hb hp=>by
  obtain⟨a,_⟩:=X
  obtain⟨N,h⟩:=h a hb.1
  exact⟨N,Eq.trans (by kernel_rfl) (h N (Nat.le_refl N))⟩
def e22ok:z0l Tryz.prog 22 e22:=f22ok z14.ok
end Go.Fw
namespace Go.Fw
variable {ρ : Type}
open Go.Proofs
def f91sig:Sig:=⟨[⟨.int .i64,false,false⟩,⟨.int .i64,false,false⟩,⟨.int .i64,false,false⟩],[⟨.bool,false,false⟩]⟩
def e91:z2j:=⟨f91sig,none,λX=>((),((z2p.g X.1 X.2.1 X.2.2.1),()))⟩
def f91G:Gm:=z1v
def f91GOk:GOk Tryz.prog f91G:=GOk.nil
def f91lE:z01:=⟨[],[],[],[],[]⟩
def f91s0(a b c:Int):St:=z2e f91sig.ps (a,(b,(c,())))
def f91s1(a:Bool):St:=z1h [(6,xB a)] [] []
def f91l1:z01:=⟨[6],[],[],[],[]⟩
def f91B:Nat->Option z01:=z1i [(1000000,f91l1)]
abbrev f91j{ρ:Type}(N n:Nat)(σ:St)(l:z01)(K:KT ρ):Option ρ:=z0w f91G tab f91B N (z2o 99 (z1x Tryz.f91) n) .n σ (z1f (some l) K)
def f91t0 N a b c (K:KT ρ):f91j N 1 (f91s0 a b c) f91lE K =
 z2p.Z0 N a b c (λd=>K .ret (f91s1 d)):=by kernel_rfl
def f91ok(h:z2p.Spec):z0l Tryz.prog 91 e91 :=
 okC Tryz.func91 z2w f91GOk (λN X K=>f91t0 N X.1 X.2.1 X.2.2.1 K) (by kernel_rfl) λX hb hp=>by
  obtain⟨a,b,c,_⟩:=X
  obtain⟨N,h⟩:=h a b c
  exact⟨N,Eq.trans (by kernel_rfl) (h N (Nat.le_refl N))⟩
def e91ok:z0l Tryz.prog 91 e91:=f91ok z2p.ok
end Go.Fw
namespace Go.Fw
variable {ρ : Type}
open Go.Proofs
def zsx:Sig:=⟨[⟨.int .i64,false,false⟩],[⟨.bool,false,false⟩]⟩
def e142:z2j:=⟨zsx,none,λX=>((),((z2a.g X.1),()))⟩
def f142G:Gm:=z3s z1v 91 e91
def f142GOk:GOk Tryz.prog f142G:=(GOk.nil).add e91ok (by kernel_rfl)
def f142lE:z01:=⟨[],[],[],[],[]⟩
def f142s0(a:Int):St:=z2e zsx.ps (a,())
def f142s1(a:Bool):St:=z1h [(2,xB a)] [] []
def f142l1:z01:=⟨[2],[],[],[],[]⟩
def f142B:Nat->Option z01:=z1i [(1000000,f142l1)]
abbrev f142j{ρ:Type}(N n:Nat)(σ:St)(l:z01)(K:KT ρ):Option ρ:=z0w f142G tab f142B N (z2o 99 (z1x Tryz.f142) n) .n σ (z1f (some l) K)
def f142t0 N a (K:KT ρ):f142j N 1 (f142s0 a) f142lE K =
 z2a.Z0 N a (λb=>K .ret (f142s1 b)):=by kernel_rfl
def f142ok(h:z2a.Spec):z0l Tryz.prog 142 e142 :=
 okC Tryz.func142 z2w f142GOk (λN X K=>f142t0 N X.1 K) (by kernel_rfl) λX hb hp=>by
  obtain⟨a,_⟩:=X
  obtain⟨N,h⟩:=h a
  exact⟨N,Eq.trans (by kernel_rfl) (h N (Nat.le_refl N))⟩
def e142ok:z0l Tryz.prog 142 e142:=f142ok z2a.ok
end Go.Fw
namespace Go.Fw
variable {ρ : Type}
open Go.Proofs
def zsr:Sig:=⟨[⟨.sl 3 (.int .i64),false,false⟩,⟨.fnc 142,false,false⟩],[⟨.int .i64,false,false⟩]⟩
def e174:z2j:=⟨zsr,none,λX=>((),((z0c.g X.1 X.2.1),()))⟩
def f174G:Gm:=z3s z1v 142 e142
def f174GOk:GOk Tryz.prog f174G:=(GOk.nil).add e142ok (by kernel_rfl)
def f174lE:z01:=⟨[],[],[],[],[]⟩
def f174s0(a:LI)(b:Unit):St:=z2e zsr.ps (a,(b,()))
def f174s1(a:LI):St:=z1h [(0,.c (.sn 3 tI a none)),(1,.c (.fn 142 []))] [] []
def f174l1:z01:=⟨[0,1],[],[],[],[]⟩
def znn(a:LI)(b d:Int):St:=z1h [(0,.c (.sn 3 tI a none)),(1,.c (.fn 142 [])),(7,xi b),(8,xi d)] [] []
def f174l2:z01:=⟨[0,1,7,8],[],[],[],[]⟩
def zka :St:=z1h [] [] []
def zss:z01:=⟨[],[],[],[],[]⟩
def zg6(a:Int):St:=z1h [(4,xi a)] [] []
def f174l4:z01:=⟨[4],[],[],[],[]⟩
def f174B:Nat->Option z01:=z1i [(0,zss),(1000000,f174l4)]
abbrev f174j{ρ:Type}(N n:Nat)(σ:St)(l:z01)(K:KT ρ):Option ρ:=z0w f174G tab f174B N (z2o 99 (z1x Tryz.f174) n) .n σ (z1f (some l) K)
def f174t1 N a b (K:KT ρ):f174j N 2 (f174s0 a b) f174l1 K =
 z0c.Z1 N a b (λa=>K .nrm (f174s1 a)):=by kernel_rfl
def f174t4 N a (K:KT ρ):f174j N 9 (f174s1 a) f174l2 K =
 z0c.Z4 N a (λa b c=>K .nrm (znn a b c)):=by kernel_rfl
def f174t7 N a b c (K:KT ρ):f174j N 37 (znn a b c) f174l2 K =
 z0c.Z7 N a b c (λa b c=>K .nrm (znn a b c)) (K (.exit 0) zka) (λd=>K .ret (zg6 d)):=by kernel_rfl
def f174t6L N (K:KT ρ):=lp3 K (z0c.Z6L N (K (.exit 0) zka) (λa=>K .ret (zg6 a))) (λb c d k=>z0c.Z7 N b c d k (K (.exit 0) zka) (λa=>K .ret (zg6 a))) (λF b c d=>f174t7 N b c d _) (by kernel_rfl)
def f174t6 N a b c (K:KT ρ):=vL (znn a b c) (f174t6L N (jK zss K) N a b c) (by kernel_rfl)
def f174t5 N a b c (K:KT ρ):=vB 0 zss K (z0c.Z5 N a b c (K .nrm zka) (λd=>K .ret (zg6 d))) (f174t6 N a b c _) (by kernel_rfl)
def f174t3 N a (K:KT ρ):=vQ (λk=>z0c.Z4 N a k) (f174t4 N a _) (fx3 λa b c=>f174t5 N a b c K)
def f174t8 N  (K:KT ρ):f174j N 7 zka f174lE K =
 z0c.Z8 N (λa=>K .ret (zg6 a)):=by kernel_rfl
def f174t2 N a (K:KT ρ):=vQ (λk=>z0c.Z3 N a k (λb=>K .ret (zg6 b))) (f174t3 N a _) (f174t8 N K)
def f174t0 N a b (K:KT ρ):=vQ (λk=>z0c.Z1 N a b k) (f174t1 N a b _) (funext λa=>f174t2 N a K)
def f174ok(h:z0c.Spec):z0l Tryz.prog 174 e174 :=
 okC Tryz.func174 z2w f174GOk (λN X K=>f174t0 N X.1 X.2.1 K) (by kernel_rfl) λX hb hp=>by
  obtain⟨a,b,_⟩:=X
  obtain⟨N,h⟩:=h a b hb.1
  exact⟨N,Eq.trans (by kernel_rfl) (h N (Nat.le_refl N))⟩
def e174ok:z0l Tryz.prog 174 e174:=f174ok z0c.ok
end Go.Fw
namespace Go.Fw
variable {ρ : Type}
open Go.Proofs
def zsy:Sig:=⟨[⟨.sl 3 (.int .i64),false,false⟩,⟨.fnc 142,false,false⟩],[⟨.bool,false,false⟩]⟩
def e141:z2j:=⟨zsy,none,λX=>((),((z17.g X.1 X.2.1),()))⟩
def f141G:Gm:=z3s z1v 174 e174
def f141GOk:GOk Tryz.prog f141G:=(GOk.nil).add e174ok (by kernel_rfl)
def f141lE:z01:=⟨[],[],[],[],[]⟩
def f141s0(a:LI)(b:Unit):St:=z2e zsy.ps (a,(b,()))
def f141s1(a:Bool):St:=z1h [(4,xB a)] [] []
def f141l1:z01:=⟨[4],[],[],[],[]⟩
def f141B:Nat->Option z01:=z1i [(1000000,f141l1)]
abbrev f141j{ρ:Type}(N n:Nat)(σ:St)(l:z01)(K:KT ρ):Option ρ:=z0w f141G tab f141B N (z2o 99 (z1x Tryz.f141) n) .n σ (z1f (some l) K)
def f141t0 N a b (K:KT ρ):f141j N 1 (f141s0 a b) f141lE K =
 z17.Z0 N a b (λc=>K .ret (f141s1 c)):=by kernel_rfl
def f141ok(h:z17.Spec):z0l Tryz.prog 141 e141 :=
 okC Tryz.func141 z2w f141GOk (λN X K=>f141t0 N X.1 X.2.1 K) (by kernel_rfl) λX hb hp=>by
  obtain⟨a,b,_⟩:=X
  obtain⟨N,h⟩:=h a b hb.1
  exact⟨N,Eq.trans (by kernel_rfl) (h N (Nat.le_refl N))⟩
def e141ok:z0l Tryz.prog 141 e141:=f141ok z17.ok
end Go.Fw
namespace Go.Fw
variable {ρ : Type}
open Go.Proofs
def ztp:Sig:=⟨[⟨.pair (.int .i64) (.pair (.int .i64) (.sl 3 (.int .i64))),true,false⟩],[⟨.bool,false,false⟩]⟩
def e102:z2j:=⟨ztp,none,λX=>((),((z3x.g X.1),()))⟩
def f102G:Gm:=z3s (z3s z1v 91 e91) 141 e141
def f102GOk:GOk Tryz.prog f102G:=((GOk.nil).add e91ok (by kernel_rfl)).add e141ok (by kernel_rfl)
def f102lE:z01:=⟨[],[],[],[],[]⟩
def f102s0(a:MT):St:=z2e ztp.ps (a,())
def f102s1(a:Bool):St:=z1h [(2,xB a)] [] []
def f102l1:z01:=⟨[2],[],[],[],[]⟩
def f102B:Nat->Option z01:=z1i [(1000000,f102l1)]
abbrev f102j{ρ:Type}(N n:Nat)(σ:St)(l:z01)(K:KT ρ):Option ρ:=z0w f102G tab f102B N (z2o 99 (z1x Tryz.f102) n) .n σ (z1f (some l) K)
def f102t0 N a (K:KT ρ):f102j N 1 (f102s0 a) f102lE K =
 z3x.Z0 N a (λb=>K .ret (f102s1 b)):=by kernel_rfl
def f102ok(h:z3x.Spec):z0l Tryz.prog 102 e102 :=
 okC Tryz.func102 z2w f102GOk (λN X K=>f102t0 N X.1 K) (by kernel_rfl) λX hb hp=>by
  obtain⟨a,_⟩:=X
  obtain⟨N,h⟩:=h a hb.1
  exact⟨N,Eq.trans (by kernel_rfl) (h N (Nat.le_refl N))⟩
def e102ok:z0l Tryz.prog 102 e102:=f102ok z3x.ok
end Go.Fw
namespace Go.Fw
variable {ρ : Type}
open Go.Proofs
def f83sig:Sig:=⟨[⟨.pair (.int .i64) (.pair (.int .i64) (.sl 3 (.int .i64))),true,false⟩,⟨.int .i64,false,false⟩,⟨.int .i64,false,false⟩],[⟨.int .i64,false,false⟩]⟩
def e83:z2j:=⟨f83sig,(some λX=>z1k.P X.1 X.2.1 X.2.2.1),λX=>((),((z1k.g X.1 X.2.1 X.2.2.1),()))⟩
def f83G:Gm:=z1v
def f83GOk:GOk Tryz.prog f83G:=GOk.nil
def f83lE:z01:=⟨[],[],[],[],[]⟩
def f83s0(a:MT)(b c:Int):St:=z2e f83sig.ps (a,(b,(c,())))
def f83s1(a:Int):St:=z1h [(6,xi a)] [] []
def f83l1:z01:=⟨[6],[],[],[],[]⟩
def f83B:Nat->Option z01:=z1i [(1000000,f83l1)]
abbrev f83j{ρ:Type}(N n:Nat)(σ:St)(l:z01)(K:KT ρ):Option ρ:=z0w f83G tab f83B N (z2o 99 (z1x Tryz.f83) n) .n σ (z1f (some l) K)
def f83t0 N a b c (K:KT ρ):f83j N 1 (f83s0 a b c) f83lE K =
 z1k.Z0 N a b c (λd=>K .ret (f83s1 d)):=by kernel_rfl
def f83ok(h:z1k.Spec):z0l Tryz.prog 83 e83 :=
 okC Tryz.func83 z2w f83GOk (λN X K=>f83t0 N X.1 X.2.1 X.2.2.1 K) (by kernel_rfl) λX hb hp=>by
  obtain⟨a,b,c,_⟩:=X
  obtain⟨N,h⟩:=h a b c hb.1 hp
  exact⟨N,Eq.trans (by kernel_rfl) (h N (Nat.le_refl N))⟩
def e83ok:z0l Tryz.prog 83 e83:=f83ok z1k.ok
end Go.Fw
namespace Go.Fw
variable {ρ : Type}
open Go.Proofs
def zsv:Sig:=⟨[⟨.int .i64,false,false⟩,⟨.int .i64,false,false⟩],[⟨.int .i64,false,false⟩]⟩
def e143:z2j:=⟨zsv,(some λX=>z2f.P X.1 X.2.1),λX=>((),((z2f.g X.1 X.2.1),()))⟩
def f143G:Gm:=z1v
def f143GOk:GOk Tryz.prog f143G:=GOk.nil
def f143lE:z01:=⟨[],[],[],[],[]⟩
def f143s0(a b:Int):St:=z2e zsv.ps (a,(b,()))
def znp(a b:Int):St:=z1h [(0,xi a),(1,xi b)] [] []
def f143l1:z01:=⟨[0,1],[],[],[],[]⟩
def zkc(a:Int):St:=z1h [(0,xi a)] [] []
def zsw:z01:=⟨[0],[],[],[],[]⟩
def f143s3(a:Int):St:=z1h [(4,xi a)] [] []
def f143l3:z01:=⟨[4],[],[],[],[]⟩
def f143B:Nat->Option z01:=z1i [(0,zsw),(1000000,f143l3)]
abbrev f143j{ρ:Type}(N n:Nat)(σ:St)(l:z01)(K:KT ρ):Option ρ:=z0w f143G tab f143B N (z2o 99 (z1x Tryz.f143) n) .n σ (z1f (some l) K)
def f143t1 N a b (K:KT ρ):f143j N 2 (f143s0 a b) f143l1 K =
 z2f.Z1 N a b (λa b=>K .nrm (znp a b)):=by kernel_rfl
def f143t5 N a b (K:KT ρ):f143j N 17 (znp a b) f143l1 K =
 z2f.Z5 N a b (λa b=>K .nrm (znp a b)) (λa=>K (.exit 0) (zkc a)):=by kernel_rfl
def f143t4L N (K:KT ρ):=lp2 K (z2f.Z4L N (λa=>K (.exit 0) (zkc a))) (λa b k=>z2f.Z5 N a b k (λa=>K (.exit 0) (zkc a))) (λF a b=>f143t5 N a b _) (by kernel_rfl)
def f143t4 N a b (K:KT ρ):=vL (znp a b) (f143t4L N (jK zsw K) N a b) (by kernel_rfl)
def f143t3 N a b (K:KT ρ):=vB 0 zsw K (z2f.Z3 N a b (λa=>K .nrm (zkc a))) (f143t4 N a b _) (by kernel_rfl)
def f143t6 N a (K:KT ρ):f143j N 7 (zkc a) f143lE K =
 z2f.Z6 N a (λb=>K .ret (f143s3 b)):=by kernel_rfl
def f143t2 N a b (K:KT ρ):=vQ (λk=>z2f.Z3 N a b k) (f143t3 N a b _) (funext λa=>f143t6 N a K)
def f143t0 N a b (K:KT ρ):=vQ (λk=>z2f.Z1 N a b k) (f143t1 N a b _) (fx2 λa b=>f143t2 N a b K)
def f143ok(h:z2f.Spec):z0l Tryz.prog 143 e143 :=
 okC Tryz.func143 z2w f143GOk (λN X K=>f143t0 N X.1 X.2.1 K) (by kernel_rfl) λX hb hp=>by
  obtain⟨a,b,_⟩:=X
  obtain⟨N,h⟩:=h a b hp
  exact⟨N,Eq.trans (by kernel_rfl) (h N (Nat.le_refl N))⟩
def e143ok:z0l Tryz.prog 143 e143:=f143ok z2f.ok
end Go.Fw
