/- The ties: the program's text comes to the plain functions. Nothing is assumed. -/
import Derived.Test.YtillpdbmnjkjiaaFwc
import Derived.Test.YtillpdbmnjkjiaaProg
import Derived.Test.YtillpdbmnjkjiaaPuFnRenamedc
import Derived.Test.YtillpdbmnjkjiaaPuFnRenameda
import Derived.Test.YtillpdbmnjkjiaaPuFnRenamedb
noncomputable section
set_option linter.unusedVariables false
set_option linter.unusedSimpArgs false
set_option maxRecDepth 100000
namespace Go.Fw
open Go.Proofs
def tab:Tab:=zli [
 (2,⟨false,.int .i64,[.int .i64 0],[],none,8⟩),
 (3,⟨false,.int .i64,[.int .i64 0],[],none,8⟩),
 (4,⟨false,.bool,[.bool false],[],none,1⟩),
 (5,⟨false,.int .u8,[.int .u8 0],[],none,1⟩),
 (6,⟨false,.int .u8,[.int .u8 0],[],none,1⟩),
 (7,⟨true,.pair (.int .i64) (.pair (.int .i64) (.pair (.bool) (.int .u8))),[.int .i64 0,.int .i64 0,.bool false,.int .u8 0],[(0,1,false),(1,1,false),(2,1,false),(3,1,false)],none,24⟩),
 (8,⟨true,.pair (.int .i64) (.pair (.int .i64) (.pair (.bool) (.int .u8))),[.int .i64 0,.int .i64 0,.bool false,.int .u8 0],[(0,1,false),(1,1,false),(2,1,false),(3,1,false)],none,24⟩),
 (9,⟨false,.str,[.str ByteArray.empty],[],none,16⟩),
 (10,⟨false,.str,[.str ByteArray.empty],[],none,16⟩),
 (11,⟨false,.str,[.str ByteArray.empty],[],none,16⟩),
 (12,⟨false,.int .u64,[.int .u64 0],[],none,8⟩),
 (13,⟨true,.pair (.str) (.int .u64),[.str ByteArray.empty,.int .u64 0],[(0,1,false),(1,1,false)],none,24⟩),
 (14,⟨true,.pair (.str) (.int .u64),[.str ByteArray.empty,.int .u64 0],[(0,1,false),(1,1,false)],none,24⟩),
 (20,⟨false,.err,[.err false],[],none,16⟩),
 (21,⟨false,.int .i32,[.int .i32 0],[],none,4⟩),
 (22,⟨false,.sl 3 (.int .i64),[.nil],[],some 3,24⟩),
 (23,⟨true,.pair (.int .i64) (.pair (.int .i64) (.sl 3 (.int .i64))),[.int .i64 0,.int .i64 0,.nil],[(0,1,false),(1,1,false),(2,1,false)],none,40⟩),
 (24,⟨true,.pair (.int .i64) (.pair (.int .i64) (.sl 3 (.int .i64))),[.int .i64 0,.int .i64 0,.nil],[(0,1,false),(1,1,false),(2,1,false)],none,40⟩),
 (25,⟨false,.sl 103 (.pair (.int .i64) (.sl 135 (.pair (.sl 3 (.int .i64)) (.int .i64)))),[.nil],[],some 103,24⟩),
 (26,⟨true,.pair (.pair (.int .i64) (.pair (.int .i64) (.sl 3 (.int .i64)))) (.sl 103 (.pair (.int .i64) (.sl 135 (.pair (.sl 3 (.int .i64)) (.int .i64))))),[.int .i64 0,.int .i64 0,.nil,.nil],[(0,3,true),(3,1,false)],none,64⟩),
 (27,⟨true,.pair (.pair (.int .i64) (.pair (.int .i64) (.sl 3 (.int .i64)))) (.sl 103 (.pair (.int .i64) (.sl 135 (.pair (.sl 3 (.int .i64)) (.int .i64))))),[.int .i64 0,.int .i64 0,.nil,.nil],[(0,3,true),(3,1,false)],none,64⟩),
 (30,⟨true,.pair (.int .i64) (.pair (.int .i64) (.sl 3 (.int .i64))),[.int .i64 0,.int .i64 0,.nil],[(0,1,false),(1,1,false),(2,1,false)],none,40⟩),
 (31,⟨false,.sl 71 (.pair (.int .i64) (.sl 107 (.pair (.sl 3 (.int .i64)) (.int .i64)))),[.nil],[],some 71,24⟩),
 (32,⟨true,.pair (.pair (.int .i64) (.pair (.int .i64) (.sl 3 (.int .i64)))) (.sl 71 (.pair (.int .i64) (.sl 107 (.pair (.sl 3 (.int .i64)) (.int .i64))))),[.int .i64 0,.int .i64 0,.nil,.nil],[(0,3,true),(3,1,false)],none,64⟩),
 (33,⟨true,.pair (.pair (.int .i64) (.pair (.int .i64) (.sl 3 (.int .i64)))) (.sl 71 (.pair (.int .i64) (.sl 107 (.pair (.sl 3 (.int .i64)) (.int .i64))))),[.int .i64 0,.int .i64 0,.nil,.nil],[(0,3,true),(3,1,false)],none,64⟩),
 (38,⟨false,.sl 22 (.sl 3 (.int .i64)),[.nil],[],some 22,24⟩),
 (47,⟨false,.sl 5 (.int .u8),[.nil],[],some 5,24⟩),
 (69,⟨false,.sl 107 (.pair (.sl 3 (.int .i64)) (.int .i64)),[.nil],[],some 107,24⟩),
 (70,⟨true,.pair (.int .i64) (.sl 107 (.pair (.sl 3 (.int .i64)) (.int .i64))),[.int .i64 0,.nil],[(0,1,false),(1,1,false)],none,32⟩),
 (71,⟨true,.pair (.int .i64) (.sl 107 (.pair (.sl 3 (.int .i64)) (.int .i64))),[.int .i64 0,.nil],[(0,1,false),(1,1,false)],none,32⟩),
 (77,⟨true,.pair (.sl 22 (.sl 3 (.int .i64))) (.bool),[.nil,.bool false],[(0,1,false),(1,1,false)],none,32⟩),
 (78,⟨true,.pair (.sl 22 (.sl 3 (.int .i64))) (.bool),[.nil,.bool false],[(0,1,false),(1,1,false)],none,32⟩),
 (88,⟨false,.sl 30 (.pair (.int .i64) (.pair (.int .i64) (.sl 3 (.int .i64)))),[.nil],[],some 30,24⟩),
 (95,⟨false,.pair (.int .i64) (.sl 0 .bool),[.undef],[],none,8⟩),
 (96,⟨false,.sl 4 (.bool),[.nil],[],some 4,24⟩),
 (101,⟨false,.sl 135 (.pair (.sl 3 (.int .i64)) (.int .i64)),[.nil],[],some 135,24⟩),
 (102,⟨true,.pair (.int .i64) (.sl 135 (.pair (.sl 3 (.int .i64)) (.int .i64))),[.int .i64 0,.nil],[(0,1,false),(1,1,false)],none,32⟩),
 (103,⟨true,.pair (.int .i64) (.sl 135 (.pair (.sl 3 (.int .i64)) (.int .i64))),[.int .i64 0,.nil],[(0,1,false),(1,1,false)],none,32⟩),
 (106,⟨true,.pair (.sl 3 (.int .i64)) (.int .i64),[.nil,.int .i64 0],[(0,1,false),(1,1,false)],none,32⟩),
 (107,⟨true,.pair (.sl 3 (.int .i64)) (.int .i64),[.nil,.int .i64 0],[(0,1,false),(1,1,false)],none,32⟩),
 (112,⟨true,.pair (.sl 5 (.int .u8)) (.pair (.int .i64) (.int .i64)),[.nil,.int .i64 0,.int .i64 0],[(0,1,false),(1,1,false),(2,1,false)],none,40⟩),
 (113,⟨true,.pair (.sl 5 (.int .u8)) (.pair (.int .i64) (.int .i64)),[.nil,.int .i64 0,.int .i64 0],[(0,1,false),(1,1,false),(2,1,false)],none,40⟩),
 (131,⟨false,.int .u64,[.int .u64 0],[],none,8⟩),
 (135,⟨true,.pair (.sl 3 (.int .i64)) (.int .i64),[.nil,.int .i64 0],[(0,1,false),(1,1,false)],none,32⟩),
 (139,⟨false,.sl 9 (.str),[.nil],[],some 9,24⟩),
 (148,⟨false,.int .u32,[.int .u32 0],[],none,4⟩),
 (149,⟨false,.int .u8,[.int .u8 0],[],none,1⟩),
 (150,⟨false,.int .u8,[.int .u8 0],[],none,1⟩),
 (153,⟨false,.int .i32,[.int .i32 0],[],none,4⟩),
 (154,⟨false,.int .i32,[.int .i32 0],[],none,4⟩)]
theorem z34:TOk Try.prog tab:=TOk.of (by kernel_rfl)
instance:Inv Try.prog:=Inv.triv _
end Go.Fw
namespace Go.Fw
variable {ρ:Type}
open Go.Proofs
def zp9:Sig:=⟨[⟨.sl 5 (.int .u8),false,false⟩],[⟨.bool,false,false⟩]⟩
def e25:z2v:=⟨zp9,none,fun X=>((),((z6y.g X.1),()))⟩
def f25G:Gm:=z24
theorem f25GOk:GOk Try.prog f25G:=GOk.nil
def f25lE:z09:=⟨[],[],[],[],[]⟩
def f25s0 (a:List Int):St:=z2j zp9.ps (a,())
def f25s1 (a:Bool):St:=z1k [(2,xB a)] [] []
def f25l1:z09:=⟨[2],[],[],[],[]⟩
def f25B:Nat→Option z09:=z1n [(1000000,f25l1)]
abbrev f25i {ρ:Type} (N:Nat) (c:Code) (p:z0p) (σ:St) (K:KT ρ):Option ρ:=z1t f25G tab f25B N c p σ K
def f25c (n:Nat):Code:=z2x 99 (z25 Try.f25) n
theorem f25t0 N a (K:KT ρ):f25i N (f25c 1) .n (f25s0 a) (z00 (some f25lE) K) =
 z6y.Z0 N a (fun b=>K .ret (f25s1 b)):=by kernel_rfl
theorem f25m (N:Nat) (a:List Int):f25i N (f25c 1) .n (f25s0 a) (z00 (some f25lE) (z3o tab zp9 Try.f25.results.toList)) = z6y.Z0 N a (fun b=>some ((),(b,()))) :=
 (f25t0 N a (z3o tab zp9 Try.f25.results.toList)).trans (by kernel_rfl)
theorem f25ok (h:z6y.Spec):z0r Try.prog 25 e25 :=
 z0k (sig:=zp9) (c:=(f25c 1)) (pl:=.n) (je:=(some f25lE)) (B:=f25B) Try.func25 (by kernel_rfl) (by kernel_rfl) (by kernel_rfl) z34 f25GOk (by kernel_rfl) (by kernel_rfl) (by kernel_rfl) (by kernel_rfl) fun X hb hp=>by
  obtain ⟨a,_⟩:=X
  obtain ⟨N,h⟩:=h a hb.1
  exact ⟨N,(f25m N a).trans (h N (Nat.le_refl N))⟩
theorem e25ok:z0r Try.prog 25 e25:=f25ok z6y.ok
end Go.Fw
namespace Go.Fw
variable {ρ:Type}
open Go.Proofs
def f65k:zey:=⟨113,[(5,.int .u8)],.pair (.int .i64) (.int .i64)⟩
def f65ps:List PT:=[⟨.sl 5 (.int .u8),false,false⟩]
def e65:zas:=⟨f65k,f65ps,none,fun X=>(z1h.g X.1)⟩
def f65G:Gm:=z24
theorem f65GOk:GOk Try.prog f65G:=GOk.nil
def zfx:z09:=⟨[],[],[],[],[]⟩
def f65s0 (u0:Value) (a:List Int):St:=zei 5 (.int .u8) (f65ps.drop 1) u0 (a,())
def f65s1 (u0:Value) (a:List Int):St:=z1k [(0,.c (.bor u0 5 (.int .u8) a))] [] []
def f65l1:z09:=⟨[0],[],[],[],[]⟩
def zhf (u0:Value) (a:List Int) (b:Int):St:=z1k [(0,.c (.bor u0 5 (.int .u8) a)),(3,xi b)] [] []
def zfy:z09:=⟨[0,3],[],[],[],[]⟩
def zw8 (u0:Value) (a:List Int) (b d:Int):St:=z1k [(0,.c (.bor u0 5 (.int .u8) a)),(3,xi b),(4,xi d)] [] []
def y1k:z09:=⟨[0,3,4],[],[],[],[]⟩
def f65s4 (u0:Value) (a:List Int) (b c:Int):St:=z1k [(2,xb 31)] [(31,(113,[.bor u0 5 (.int .u8) a,yi b,yi c]))] []
def f65l4:z09:=⟨[2],[31],[],[],[]⟩
def f65B:Nat→Option z09:=z1n [(0,zfy),(1000000,f65l4)]
abbrev zot {ρ:Type} (N:Nat) (c:Code) (p:z0p) (σ:St) (K:KT ρ):Option ρ:=z1t f65G tab f65B N c p σ K
def zms (n:Nat):Code:=z2x 99 (z25 Try.f65) n
theorem f65t1 N u0 a (K:KT ρ):zot N (zms 2) .n (f65s0 u0 a) (z00 (some f65l1) K) =
 z1h.Z1 N a (fun a=>K .nrm (f65s1 u0 a)):=by kernel_rfl
theorem f65t3 N u0 a (K:KT ρ):zot N (zms 5) .n (f65s1 u0 a) (z00 (some zfy) K) =
 z1h.Z3 N a (fun a b=>K .nrm (zhf u0 a b)):=by kernel_rfl
theorem f65t6 N u0 a b (K:KT ρ):zot N (zms 19) .n (zhf u0 a b) (z00 (some y1k) K) =
 z1h.Z6 N a b (fun a b c=>K .nrm (zw8 u0 a b c)):=by kernel_rfl
theorem f65t9 N u0 a b c (K:KT ρ):zot N (zms 75) .n (zw8 u0 a b c) (z00 (some y1k) K) =
 z1h.Z9 N a b c (fun a b c=>K .nrm (zw8 u0 a b c)) (fun a b=>K (.exit 0) (zhf u0 a b)):=by kernel_rfl
def f65p8:z0p:=.mk none (some y1k) .n .n
abbrev f65w8 {ρ:Type} (N M:Nat) (σ:St) (K:KT ρ):Option ρ:=z2r (fun σ K=>zot N (zms 75) .n σ K) y1k M σ K
theorem f65t8L {ρ:Type} (N:Nat) (u0:Value) (K:KT ρ):∀ (M:Nat) (a:List Int) (b c:Int),f65w8 N M (zw8 u0 a b c) K =
 z1h.Z8L N (fun a b=>K (.exit 0) (zhf u0 a b)) M a b c
 | 0,_,_,_=>rfl
 | M + 1,a,b,c=>z12 (fun k=>z1h.Z9 N a b c k (fun a b=>K (.exit 0) (zhf u0 a b))) (f65t9 N u0 (K:=z16 (fun σ=>f65w8 N M σ K) K) ..) (fx3 fun a b c=>f65t8L N u0 K M a b c) (by kernel_rfl)
theorem f65t8 N u0 a b c (K:KT ρ):zot N (zms 43) f65p8 (zw8 u0 a b c) (z00 (some zfy) K) =
  z1h.Z8 N a b c (fun a b=>K (.exit 0) (zhf u0 a b)) :=
 z1d (by kernel_rfl) (f65t8L N u0 (z00 (some zfy) K) N a b c) (by kernel_rfl)
def f65p7:z0p:=.mk (some zfy) none f65p8 .n
theorem f65t7 N u0 a b c (K:KT ρ):zot N (zms 27) f65p7 (zw8 u0 a b c) (z00 (some zfy) K) =
  z1h.Z7 N a b c (fun a b=>K .nrm (zhf u0 a b)) :=
 z0n (by kernel_rfl) (f65t8 N u0 (K:=z1j 0 (z00 (some zfy) K)) ..) (by kernel_rfl)
def f65p5:z0p:=.mk (some y1k) none .n f65p7
theorem f65t5 N u0 a b (K:KT ρ):zot N (zms 11) f65p5 (zhf u0 a b) (z00 (some zfy) K) =
  z1h.Z5 N a b (fun a b=>K .nrm (zhf u0 a b)) :=
 z05 (fun k=>z1h.Z6 N a b k) (by kernel_rfl) (f65t6 N u0 (K:=z16 (fun σ=>zot N (zms 27) f65p7 σ (z00 (some zfy) K)) (z00 (some zfy) K)) ..) (fx3 fun a b c=>f65t7 N u0 a b c K) (by kernel_rfl)
theorem f65t10 N u0 a b (K:KT ρ):zot N (zms 15) .n (zhf u0 a b) (z00 (some zfx) K) =
 z1h.Z10 N a b (fun c d e=>K .ret (f65s4 u0 c d e)):=by kernel_rfl
def f65p4:z0p:=.mk (some zfy) none f65p5 .n
theorem f65t4 N u0 a b (K:KT ρ):zot N (zms 7) f65p4 (zhf u0 a b) (z00 (some zfx) K) =
  z1h.Z4 N a b (fun c d e=>K .ret (f65s4 u0 c d e)) :=
 z05 (fun k=>z1h.Z5 N a b k) (by kernel_rfl) (f65t5 N u0 (K:=z16 (fun σ=>zot N (zms 15) .n σ (z00 (some zfx) K)) (z00 (some zfx) K)) ..) (fx2 fun a b=>f65t10 N u0 a b K) (by kernel_rfl)
def f65p2:z0p:=.mk (some zfy) none .n f65p4
theorem f65t2 N u0 a (K:KT ρ):zot N (zms 3) f65p2 (f65s1 u0 a) (z00 (some zfx) K) =
  z1h.Z2 N a (fun b c d=>K .ret (f65s4 u0 b c d)) :=
 z05 (fun k=>z1h.Z3 N a k) (by kernel_rfl) (f65t3 N u0 (K:=z16 (fun σ=>zot N (zms 7) f65p4 σ (z00 (some zfx) K)) (z00 (some zfx) K)) ..) (fx2 fun a e=>f65t4 N u0 a e K) (by kernel_rfl)
def f65p0:z0p:=.mk (some f65l1) none .n f65p2
theorem f65t0 N u0 a (K:KT ρ):zot N (zms 1) f65p0 (f65s0 u0 a) (z00 (some zfx) K) =
  z1h.Z0 N a (fun b c d=>K .ret (f65s4 u0 b c d)) :=
 z05 (fun k=>z1h.Z1 N a k) (by kernel_rfl) (f65t1 N u0 (K:=z16 (fun σ=>zot N (zms 3) f65p2 σ (z00 (some zfx) K)) (z00 (some zfx) K)) ..) (funext fun a=>f65t2 N u0 a K) (by kernel_rfl)
theorem f65m (N:Nat) (u0:Value) (a:List Int):zot N (zms 1) f65p0 (f65s0 u0 a) (z00 (some zfx) (finKN tab f65k Try.f65.results.toList)) = z1h.Z0 N a (fun d b c=>some ([u0],(b,c))) :=
 (f65t0 N u0 a (finKN tab f65k Try.f65.results.toList)).trans (by kernel_rfl)
theorem f65ok (h:z1h.Spec):z9k Try.prog 65 e65 :=
 zje (ps:=f65ps.drop 1) (t:=f65k.t) (c:=(zms 1)) (pl:=f65p0) (je:=(some zfx)) (B:=f65B) Try.func65 (by kernel_rfl) (by kernel_rfl) (by kernel_rfl) z34 f65GOk (by kernel_rfl) (by kernel_rfl) (by kernel_rfl) (by kernel_rfl) fun u0 X hb2 hp=>by
  obtain ⟨a,_⟩:=X
  obtain ⟨N,h⟩:=h [u0] a hb2.1
  exact ⟨N,(f65m N u0 a).trans (h N (Nat.le_refl N))⟩
theorem e65ok:z9k Try.prog 65 e65:=f65ok z1h.ok
end Go.Fw
namespace Go.Fw
variable {ρ:Type}
open Go.Proofs
def y5n:zey:=⟨113,[(5,.int .u8)],.pair (.int .i64) (.int .i64)⟩
def zpq:List PT:=[]
def zuh:List PT:=[⟨.int .i64,false,false⟩]
def e107:z5q:=⟨y5n,zpq,true,zuh,(some fun X=>z0f.P X.1.1.1 X.1.2),fun X=>((z0f.g X.1.1.1 X.1.2).1,((),((z0f.g X.1.1.1 X.1.2).2,())))⟩
def f107G:Gm:=z24
theorem f107GOk:GOk Try.prog f107G:=GOk.nil
def y5m:z09:=⟨[],[],[],[],[]⟩
def f107s0 (u0:Value) (b0:List Int) (r0:Int × Int):St:=z3v y5n zpq [u0] (((b0,()),r0),())
def f107s1 (u0:Value) (a:Int) (b:List Int) (c d:Int):St:=z1k [(2,xi a),(100000,xb 100000)] [(100000,(113,[.bor u0 5 (.int .u8) b,yi c,yi d]))] []
def f107l1:z09:=⟨[2,100000],[100000],[],[],[]⟩
def f107B:Nat→Option z09:=z1n [(1000000,f107l1)]
abbrev f107i {ρ:Type} (N:Nat) (c:Code) (p:z0p) (σ:St) (K:KT ρ):Option ρ:=z1t f107G tab f107B N c p σ K
def f107c (n:Nat):Code:=z2x 99 (z25 Try.f107) n
theorem f107t0 N u0 b0 r0 (K:KT ρ):f107i N (f107c 1) .n (f107s0 u0 b0 r0) (z00 (some y5m) K) =
 z0f.Z0 N b0 r0 (fun a b c d=>K .ret (f107s1 u0 a b c d)):=by kernel_rfl
theorem f107m (N:Nat) (u0:Value) (b0:List Int) (r0:Int × Int):f107i N (f107c 1) .n (f107s0 u0 b0 r0) (z00 (some y5m) (z7q tab y5n zpq true zuh Try.f107.results.toList)) = z0f.Z0 N b0 r0 (fun a d b c=>some ([u0],((b,c),((),(a,()))))) :=
 (f107t0 N u0 b0 r0 (z7q tab y5n zpq true zuh Try.f107.results.toList)).trans (by kernel_rfl)
theorem f107ok (h:z0f.Spec):z2u Try.prog 107 e107 :=
 z30 (k:=y5n) (ps:=zpq) (rs:=zuh) (back:=true) (c:=(f107c 1)) (pl:=.n) (je:=(some y5m)) (B:=f107B) Try.func107 (by kernel_rfl) (by kernel_rfl) (by kernel_rfl) z34 f107GOk (by kernel_rfl) (by kernel_rfl) (by kernel_rfl) fun lit X hl hb1 hb2 hp=>by
  obtain ⟨⟨⟨b0,_⟩,r0⟩,_⟩:=X
  match lit,hl with
  | [u0],_ =>
   obtain ⟨N,h⟩:=h [u0] b0 r0 hb1.1 hp
   exact ⟨N,(f107m N u0 b0 r0).trans (h N (Nat.le_refl N))⟩
theorem e107ok:z2u Try.prog 107 e107:=f107ok z0f.ok
end Go.Fw
namespace Go.Fw
variable {ρ:Type}
open Go.Proofs
def f69k:zey:=⟨113,[(5,.int .u8)],.pair (.int .i64) (.int .i64)⟩
def y18:List PT:=[⟨.int .i64,false,false⟩]
def f69rs:List PT:=[⟨.int .i64,false,false⟩]
def e69:z5q:=⟨f69k,y18,true,f69rs,(some fun X=>z01.P X.1.1.1 X.1.2 X.2.1),fun X=>((z01.g X.1.1.1 X.1.2 X.2.1).1,((),((z01.g X.1.1.1 X.1.2 X.2.1).2,())))⟩
def f69G:Gm:=addV z24 107 e107
theorem f69GOk:GOk Try.prog f69G:=(GOk.nil).addV e107ok (by kernel_rfl)
def f69lE:z09:=⟨[],[],[],[],[]⟩
def f69s0 (u0:Value) (b0:List Int) (r0:Int × Int) (a:Int):St:=z3v f69k y18 [u0] (((b0,()),r0),(a,()))
def f69s1 (u0:Value) (a:Int) (b:List Int) (c d:Int):St:=z1k [(4,xi a),(100000,xb 100000)] [(100000,(113,[.bor u0 5 (.int .u8) b,yi c,yi d]))] []
def f69l1:z09:=⟨[4,100000],[100000],[],[],[]⟩
def f69B:Nat→Option z09:=z1n [(1000000,f69l1)]
abbrev f69i {ρ:Type} (N:Nat) (c:Code) (p:z0p) (σ:St) (K:KT ρ):Option ρ:=z1t f69G tab f69B N c p σ K
def f69c (n:Nat):Code:=z2x 99 (z25 Try.f69) n
theorem f69t0 N u0 b0 r0 a (K:KT ρ):f69i N (f69c 1) .n (f69s0 u0 b0 r0 a) (z00 (some f69lE) K) =
 z01.Z0 N b0 r0 a (fun b c d e=>K .ret (f69s1 u0 b c d e)):=by kernel_rfl
theorem f69m (N:Nat) (u0:Value) (b0:List Int) (r0:Int × Int) (a:Int):f69i N (f69c 1) .n (f69s0 u0 b0 r0 a) (z00 (some f69lE) (z7q tab f69k y18 true f69rs Try.f69.results.toList)) = z01.Z0 N b0 r0 a (fun b e c d=>some ([u0],((c,d),((),(b,()))))) :=
 (f69t0 N u0 b0 r0 a (z7q tab f69k y18 true f69rs Try.f69.results.toList)).trans (by kernel_rfl)
theorem f69ok (h:z01.Spec):z2u Try.prog 69 e69 :=
 z30 (k:=f69k) (ps:=y18) (rs:=f69rs) (back:=true) (c:=(f69c 1)) (pl:=.n) (je:=(some f69lE)) (B:=f69B) Try.func69 (by kernel_rfl) (by kernel_rfl) (by kernel_rfl) z34 f69GOk (by kernel_rfl) (by kernel_rfl) (by kernel_rfl) fun lit X hl hb1 hb2 hp=>by
  obtain ⟨⟨⟨b0,_⟩,r0⟩,a,_⟩:=X
  match lit,hl with
  | [u0],_ =>
   obtain ⟨N,h⟩:=h [u0] b0 r0 a hb1.1 hp
   exact ⟨N,(f69m N u0 b0 r0 a).trans (h N (Nat.le_refl N))⟩
theorem zs7:z2u Try.prog 69 e69:=f69ok z01.ok
end Go.Fw
namespace Go.Fw
variable {ρ:Type}
open Go.Proofs
def y64:zey:=⟨113,[(5,.int .u8)],.pair (.int .i64) (.int .i64)⟩
def zpu:List PT:=[⟨.int .i64,false,false⟩]
def zuo:List PT:=[⟨.bool,false,false⟩]
def e104:z5q:=⟨y64,zpu,true,zuo,(some fun X=>z0w.P X.1.1.1 X.1.2 X.2.1),fun X=>((z0w.g X.1.1.1 X.1.2 X.2.1).1,((),((z0w.g X.1.1.1 X.1.2 X.2.1).2,())))⟩
def f104G:Gm:=addV z24 69 e69
theorem f104GOk:GOk Try.prog f104G:=(GOk.nil).addV zs7 (by kernel_rfl)
def y63:z09:=⟨[],[],[],[],[]⟩
def f104s0 (u0:Value) (b0:List Int) (r0:Int × Int) (a:Int):St:=z3v y64 zpu [u0] (((b0,()),r0),(a,()))
def f104s1 (u0:Value) (a:Bool) (b:List Int) (c d:Int):St:=z1k [(4,xB a),(100000,xb 100000)] [(100000,(113,[.bor u0 5 (.int .u8) b,yi c,yi d]))] []
def f104l1:z09:=⟨[4,100000],[100000],[],[],[]⟩
def f104B:Nat→Option z09:=z1n [(1000000,f104l1)]
abbrev f104i {ρ:Type} (N:Nat) (c:Code) (p:z0p) (σ:St) (K:KT ρ):Option ρ:=z1t f104G tab f104B N c p σ K
def f104c (n:Nat):Code:=z2x 99 (z25 Try.f104) n
theorem f104t0 N u0 b0 r0 a (K:KT ρ):f104i N (f104c 1) .n (f104s0 u0 b0 r0 a) (z00 (some y63) K) =
 z0w.Z0 N b0 r0 a (fun b c d e=>K .ret (f104s1 u0 b c d e)):=by kernel_rfl
theorem f104m (N:Nat) (u0:Value) (b0:List Int) (r0:Int × Int) (a:Int):f104i N (f104c 1) .n (f104s0 u0 b0 r0 a) (z00 (some y63) (z7q tab y64 zpu true zuo Try.f104.results.toList)) = z0w.Z0 N b0 r0 a (fun b e c d=>some ([u0],((c,d),((),(b,()))))) :=
 (f104t0 N u0 b0 r0 a (z7q tab y64 zpu true zuo Try.f104.results.toList)).trans (by kernel_rfl)
theorem f104ok (h:z0w.Spec):z2u Try.prog 104 e104 :=
 z30 (k:=y64) (ps:=zpu) (rs:=zuo) (back:=true) (c:=(f104c 1)) (pl:=.n) (je:=(some y63)) (B:=f104B) Try.func104 (by kernel_rfl) (by kernel_rfl) (by kernel_rfl) z34 f104GOk (by kernel_rfl) (by kernel_rfl) (by kernel_rfl) fun lit X hl hb1 hb2 hp=>by
  obtain ⟨⟨⟨b0,_⟩,r0⟩,a,_⟩:=X
  match lit,hl with
  | [u0],_ =>
   obtain ⟨N,h⟩:=h [u0] b0 r0 a hb1.1 hp
   exact ⟨N,(f104m N u0 b0 r0 a).trans (h N (Nat.le_refl N))⟩
theorem e104ok:z2u Try.prog 104 e104:=f104ok z0w.ok
end Go.Fw
namespace Go.Fw
variable {ρ:Type}
open Go.Proofs
def zhu:Sig:=⟨[⟨.int .i64,false,false⟩],[⟨.pair (.int .i64) (.pair (.int .i64) (.sl 3 (.int .i64))),true,false⟩]⟩
def e124:z2v:=⟨zhu,(some fun X=>z07.P X.1),fun X=>((),((z07.g X.1),()))⟩
def f124G:Gm:=z24
theorem f124GOk:GOk Try.prog f124G:=GOk.nil
def y48:z09:=⟨[],[],[],[],[]⟩
def f124s0 (a:Int):St:=z2j zhu.ps (a,())
def f124s1 (a:LI) (b c:Int):St:=z1k [(2,xb 2)] [(2,(30,[yi b,yi c,.own 20000130]))] [(20000130,(⟨3,.int .i64,a,true,false⟩:Row))]
def f124l1:z09:=⟨[2],[2],[],[],[(⟨true,2,2⟩,20000130)]⟩
def f124B:Nat→Option z09:=z1n [(1000000,f124l1)]
abbrev f124i {ρ:Type} (N:Nat) (c:Code) (p:z0p) (σ:St) (K:KT ρ):Option ρ:=z1t f124G tab f124B N c p σ K
def f124c (n:Nat):Code:=z2x 99 (z25 Try.f124) n
theorem f124t0 N a (K:KT ρ):f124i N (f124c 1) .n (f124s0 a) (z00 (some y48) K) =
 z07.Z0 N a (fun b c d=>K .ret (f124s1 b c d)):=by kernel_rfl
theorem f124m (N:Nat) (a:Int):f124i N (f124c 1) .n (f124s0 a) (z00 (some y48) (z3o tab zhu Try.f124.results.toList)) = z07.Z0 N a (fun b c d=>some ((),((c,(d,b)),()))) :=
 (f124t0 N a (z3o tab zhu Try.f124.results.toList)).trans (by kernel_rfl)
theorem f124ok (h:z07.Spec):z0r Try.prog 124 e124 :=
 z0k (sig:=zhu) (c:=(f124c 1)) (pl:=.n) (je:=(some y48)) (B:=f124B) Try.func124 (by kernel_rfl) (by kernel_rfl) (by kernel_rfl) z34 f124GOk (by kernel_rfl) (by kernel_rfl) (by kernel_rfl) (by kernel_rfl) fun X hb hp=>by
  obtain ⟨a,_⟩:=X
  obtain ⟨N,h⟩:=h a hp
  exact ⟨N,(f124m N a).trans (h N (Nat.le_refl N))⟩
theorem e124ok:z0r Try.prog 124 e124:=f124ok z07.ok
end Go.Fw
namespace Go.Fw
variable {ρ:Type}
open Go.Proofs
def y47:zey:=⟨113,[(5,.int .u8)],.pair (.int .i64) (.int .i64)⟩
def zpi:List PT:=[⟨.pair (.int .i64) (.pair (.int .i64) (.sl 3 (.int .i64))),true,true⟩,⟨.int .i64,false,false⟩,⟨.int .i64,false,false⟩,⟨.int .i64,false,false⟩,⟨.int .i64,false,false⟩]
def zu8:List PT:=[]
def e125:z5q:=⟨y47,zpi,true,zu8,(some fun X=>z0a.P X.1.1.1 X.1.2 X.2.1 X.2.2.1 X.2.2.2.1 X.2.2.2.2.1 X.2.2.2.2.2.1),fun X=>((z0a.g X.1.1.1 X.1.2 X.2.1 X.2.2.1 X.2.2.2.1 X.2.2.2.2.1 X.2.2.2.2.2.1).1,((z0a.g X.1.1.1 X.1.2 X.2.1 X.2.2.1 X.2.2.2.1 X.2.2.2.2.1 X.2.2.2.2.2.1).2,()))⟩
def f125G:Gm:=addV z24 104 e104
theorem f125GOk:GOk Try.prog f125G:=(GOk.nil).addV e104ok (by kernel_rfl)
def f125s0 (u0:Value) (b0:List Int) (r0:Int × Int) (a:MT) (b c d e:Int):St:=z3v y47 zpi [u0] (((b0,()),r0),(a,(b,(c,(d,(e,()))))))
def f125s1 (u0:Value) (a:LI) (b c:Int) (d:List Int) (e f:Int):St:=z1k [(100000,xb 100000),(100001,.agg [yi b,yi c,.own 7400066])] [(100000,(113,[.bor u0 5 (.int .u8) d,yi e,yi f]))] [(7400066,(⟨3,.int .i64,a,true,false⟩:Row))]
def y46:z09:=⟨[100000,100001],[100000],[],[],[(⟨false,100001,2⟩,7400066)]⟩
def f125B:Nat→Option z09:=z1n []
abbrev f125i {ρ:Type} (N:Nat) (c:Code) (p:z0p) (σ:St) (K:KT ρ):Option ρ:=z1t f125G tab f125B N c p σ K
def f125c (n:Nat):Code:=z2x 99 (z25 Try.f125) n
theorem f125t0 N u0 b0 r0 a b c d e (K:KT ρ):f125i N (f125c 1) .n (f125s0 u0 b0 r0 a b c d e) (z00 (some y46) K) =
 z0a.Z0 N b0 r0 a b c d e (fun f g h i j l=>K .nrm (f125s1 u0 f g h i j l)):=by kernel_rfl
theorem f125m (N:Nat) (u0:Value) (b0:List Int) (r0:Int × Int) (a:MT) (b c d e:Int):f125i N (f125c 1) .n (f125s0 u0 b0 r0 a b c d e) (z00 (some y46) (z7q tab y47 zpi true zu8 Try.f125.results.toList)) = z0a.Z0 N b0 r0 a b c d e (fun f g h l i j=>some ([u0],((i,j),((g,(h,f)),())))) :=
 (f125t0 N u0 b0 r0 a b c d e (z7q tab y47 zpi true zu8 Try.f125.results.toList)).trans (by kernel_rfl)
theorem f125ok (h:z0a.Spec):z2u Try.prog 125 e125 :=
 z30 (k:=y47) (ps:=zpi) (rs:=zu8) (back:=true) (c:=(f125c 1)) (pl:=.n) (je:=(some y46)) (B:=f125B) Try.func125 (by kernel_rfl) (by kernel_rfl) (by kernel_rfl) z34 f125GOk (by kernel_rfl) (by kernel_rfl) (by kernel_rfl) fun lit X hl hb1 hb2 hp=>by
  obtain ⟨⟨⟨b0,_⟩,r0⟩,a,b,d,e,f,_⟩:=X
  match lit,hl with
  | [u0],_ =>
   obtain ⟨N,h⟩:=h [u0] b0 r0 a b d e f hb1.1 hb2.1 hp
   exact ⟨N,(f125m N u0 b0 r0 a b d e f).trans (h N (Nat.le_refl N))⟩
theorem e125ok:z2u Try.prog 125 e125:=f125ok z0a.ok
end Go.Fw
namespace Go.Fw
variable {ρ:Type}
open Go.Proofs
def y62:zey:=⟨113,[(5,.int .u8)],.pair (.int .i64) (.int .i64)⟩
def zps:List PT:=[]
def zum:List PT:=[⟨.pair (.int .i64) (.pair (.int .i64) (.sl 3 (.int .i64))),true,false⟩]
def e105:z5q:=⟨y62,zps,true,zum,(some fun X=>z0g.P X.1.1.1 X.1.2),fun X=>((z0g.g X.1.1.1 X.1.2).1,((),((z0g.g X.1.1.1 X.1.2).2,())))⟩
def f105G:Gm:=addV (z4p (addV z24 69 e69) 124 e124) 125 e125
theorem f105GOk:GOk Try.prog f105G:=(((GOk.nil).addV zs7 (by kernel_rfl)).add e124ok (by kernel_rfl)).addV e125ok (by kernel_rfl)
def z7v:z09:=⟨[],[],[],[],[]⟩
def y5s (u0:Value) (b0:List Int) (r0:Int × Int):St:=z3v y62 zps [u0] (((b0,()),r0),())
def zkr (u0:Value) (a:List Int) (b c d e:Int):St:=z1k [(0,xb 100000),(2,xb 2),(100000,xb 100000)] [(100000,(113,[.bor u0 5 (.int .u8) a,yi b,yi c])),(2,(30,[yi d,yi e,.nil]))] []
def zun:z09:=⟨[0,2,100000],[100000,2],[],[],[]⟩
def zul (u0:Value) (a:LI) (b:List Int) (c d e f g h:Int):St:=z1k [(0,xb 100000),(2,xb 2),(5,xb 5),(100000,xb 100000)] [(100000,(113,[.bor u0 5 (.int .u8) b,yi c,yi d])),(2,(30,[yi e,yi f,.nil])),(5,(30,[yi g,yi h,.own 20000322]))] [(20000322,(⟨3,.int .i64,a,true,false⟩:Row))]
def f105l2:z09:=⟨[0,2,5,100000],[100000,2,5],[],[],[(⟨true,5,2⟩,20000322)]⟩
def z5a (u0:Value) (a:LI) (b:Int) (c:List Int) (d e f g h i:Int):St:=z1k [(0,xb 100000),(2,xb 2),(5,xb 5),(6,xi b),(100000,xb 100000)] [(100000,(113,[.bor u0 5 (.int .u8) c,yi d,yi e])),(2,(30,[yi f,yi g,.nil])),(5,(30,[yi h,yi i,.own 20000322]))] [(20000322,(⟨3,.int .i64,a,true,false⟩:Row))]
def z4e:z09:=⟨[0,2,5,6,100000],[100000,2,5],[],[],[(⟨true,5,2⟩,20000322)]⟩
def zkq (u0:Value) (a:LI) (b c:Int) (d:List Int) (e f g h i j:Int):St:=z1k [(0,xb 100000),(2,xb 2),(5,xb 5),(6,xi b),(7,xi c),(100000,xb 100000)] [(100000,(113,[.bor u0 5 (.int .u8) d,yi e,yi f])),(2,(30,[yi g,yi h,.nil])),(5,(30,[yi i,yi j,.own 20000322]))] [(20000322,(⟨3,.int .i64,a,true,false⟩:Row))]
def zpt:z09:=⟨[0,2,5,6,7,100000],[100000,2,5],[],[],[(⟨true,5,2⟩,20000322)]⟩
def ze3 (u0:Value) (a:LI) (b c d e:Int) (f:List Int) (g h:Int):St:=z1k [(2,xb 2),(5,xb 5),(100000,xb 100000)] [(2,(30,[yi b,yi c,.nil])),(5,(30,[yi d,yi e,.own 20000322])),(100000,(113,[.bor u0 5 (.int .u8) f,yi g,yi h]))] [(20000322,(⟨3,.int .i64,a,true,false⟩:Row))]
def zbv:z09:=⟨[2,5,100000],[2,5,100000],[],[],[(⟨true,5,2⟩,20000322)]⟩
def zid (u0:Value) (a:LI) (b c:Int) (d:List Int) (e f:Int):St:=z1k [(2,xb 2),(100000,xb 100000)] [(2,(30,[yi b,yi c,.own 20000130])),(100000,(113,[.bor u0 5 (.int .u8) d,yi e,yi f]))] [(20000130,(⟨3,.int .i64,a,true,false⟩:Row))]
def f105l6:z09:=⟨[2,100000],[2,100000],[],[],[(⟨true,2,2⟩,20000130)]⟩
def f105B:Nat→Option z09:=z1n [(3,z4e),(2,z4e),(1,zbv),(1000000,f105l6)]
abbrev z5f {ρ:Type} (N:Nat) (c:Code) (p:z0p) (σ:St) (K:KT ρ):Option ρ:=z1t f105G tab f105B N c p σ K
def z54 (n:Nat):Code:=z2x 99 (z25 Try.f105) n
theorem f105t1 N u0 b0 r0 (K:KT ρ):z5f N (z54 2) .n (y5s u0 b0 r0) (z00 (some zun) K) =
 z0g.Z1 N b0 r0 (fun a b c d e=>K .nrm (zkr u0 a b c d e)):=by kernel_rfl
theorem f105t3 N u0 a b c d e (K:KT ρ):z5f N (z54 5) .n (zkr u0 a b c d e) (z00 (some zun) K) =
 z0g.Z3 N a b c d e (fun a b c d e=>K .nrm (zkr u0 a b c d e)) (fun f d e a b c=>K .ret (zid u0 f d e a b c)):=by kernel_rfl
theorem f105t5 N u0 a b c d e (K:KT ρ):z5f N (z54 11) .n (zkr u0 a b c d e) (z00 (some f105l2) K) =
 z0g.Z5 N a b c d e (fun f a b c d e g h=>K .nrm (zul u0 f a b c d e g h)):=by kernel_rfl
theorem f105t8 N u0 a b c d e f g h (K:KT ρ):z5f N (z54 39) .n (zul u0 a b c d e f g h) (z00 (some z4e) K) =
 z0g.Z8 N a b c d e f g h (fun a i b c d e f g h=>K .nrm (z5a u0 a i b c d e f g h)):=by kernel_rfl
theorem f105t12 N u0 a i b c d e f g h (K:KT ρ):z5f N (z54 279) .n (z5a u0 a i b c d e f g h) (z00 (some z4e) K) =
 z0g.Z12 N a i b c d e f g h (fun a i b c d e f g h=>K .nrm (z5a u0 a i b c d e f g h)) (fun a e f g h b c d=>K (.exit 1) (ze3 u0 a e f g h b c d)):=by kernel_rfl
theorem f105t16 N u0 a b c d e f g h i (K:KT ρ):z5f N (z54 2199) .n (z5a u0 a b c d e f g h i) (z00 (some zpt) K) =
 z0g.Z16 N a b c d e f g h i (fun a b j c d e f g h i=>K .nrm (zkq u0 a b j c d e f g h i)):=by kernel_rfl
theorem f105t19 N u0 a b j c d e f g h i (K:KT ρ):z5f N (z54 9367) .n (zkq u0 a b j c d e f g h i) (z00 (some zpt) K) =
 z0g.Z19 N a b j c d e f g h i (fun a b j c d e f g h i=>K .nrm (zkq u0 a b j c d e f g h i)) (fun a b c d e f g h i=>K (.exit 3) (z5a u0 a b c d e f g h i)):=by kernel_rfl
def y5x:z0p:=.mk none (some zpt) .n .n
abbrev y5q {ρ:Type} (N M:Nat) (σ:St) (K:KT ρ):Option ρ:=z2r (fun σ K=>z5f N (z54 9367) .n σ K) zpt M σ K
theorem zuj {ρ:Type} (N:Nat) (u0:Value) (K:KT ρ):∀ (M:Nat) (a:LI) (b j:Int) (c:List Int) (d e f g h i:Int),y5q N M (zkq u0 a b j c d e f g h i) K =
 z0g.Z18L N (fun a b c d e f g h i=>K (.exit 3) (z5a u0 a b c d e f g h i)) M a b j c d e f g h i
 | 0,_,_,_,_,_,_,_,_,_,_=>rfl
 | M + 1,a,b,j,c,d,e,f,g,h,i=>z12 (fun k=>z0g.Z19 N a b j c d e f g h i k (fun a b c d e f g h i=>K (.exit 3) (z5a u0 a b c d e f g h i))) (f105t19 N u0 (K:=z16 (fun σ=>y5q N M σ K) K) ..) (zb5 fun a b j c d e f g h i=>zuj N u0 K M a b j c d e f g h i) (by kernel_rfl)
theorem f105t18 N u0 a b j c d e f g h i (K:KT ρ):z5f N (z54 5271) y5x (zkq u0 a b j c d e f g h i) (z00 (some z4e) K) =
  z0g.Z18 N a b j c d e f g h i (fun a b c d e f g h i=>K (.exit 3) (z5a u0 a b c d e f g h i)) :=
 z1d (by kernel_rfl) (zuj N u0 (z00 (some z4e) K) N a b j c d e f g h i) (by kernel_rfl)
def zs2:z0p:=.mk (some z4e) none y5x .n
theorem f105t17 N u0 a b j c d e f g h i (K:KT ρ):z5f N (z54 3223) zs2 (zkq u0 a b j c d e f g h i) (z00 (some z4e) K) =
  z0g.Z17 N a b j c d e f g h i (fun a b c d e f g h i=>K .nrm (z5a u0 a b c d e f g h i)) :=
 z0n (by kernel_rfl) (f105t18 N u0 (K:=z1j 3 (z00 (some z4e) K)) ..) (by kernel_rfl)
def y5y:z0p:=.mk (some zpt) none .n zs2
theorem f105t15 N u0 a b c d e f g h i (K:KT ρ):z5f N (z54 1175) y5y (z5a u0 a b c d e f g h i) (z00 (some z4e) K) =
  z0g.Z15 N a b c d e f g h i (fun a b c d e f g h i=>K .nrm (z5a u0 a b c d e f g h i)) :=
 z05 (fun k=>z0g.Z16 N a b c d e f g h i k) (by kernel_rfl) (f105t16 N u0 (K:=z16 (fun σ=>z5f N (z54 3223) zs2 σ (z00 (some z4e) K)) (z00 (some z4e) K)) ..) (zb5 fun a b j c d e f g h i=>f105t17 N u0 a b j c d e f g h i K) (by kernel_rfl)
def y5z:z0p:=.mk (some z4e) none y5y .n
theorem f105t14 N u0 a b c d e f g h i (K:KT ρ):z5f N (z54 663) y5z (z5a u0 a b c d e f g h i) (z00 (some z4e) K) =
  z0g.Z14 N a b c d e f g h i (fun a b c d e f g h i=>K .nrm (z5a u0 a b c d e f g h i)) :=
 z0n (by kernel_rfl) (f105t15 N u0 (K:=z1j 2 (z00 (some z4e) K)) ..) (by kernel_rfl)
theorem f105t20 N u0 a b c d e f g h i (K:KT ρ):z5f N (z54 919) .n (z5a u0 a b c d e f g h i) (z00 (some z4e) K) =
 z0g.Z20 N a b c d e f g h i (fun a b c d e f g h i=>K .nrm (z5a u0 a b c d e f g h i)):=by kernel_rfl
def zs3:z0p:=.mk (some z4e) none y5z .n
theorem f105t13 N u0 a b c d e f g h i (K:KT ρ):z5f N (z54 407) zs3 (z5a u0 a b c d e f g h i) (z00 (some z4e) K) =
  z0g.Z13 N a b c d e f g h i (fun a b c d e f g h i=>K .nrm (z5a u0 a b c d e f g h i)) :=
 z05 (fun k=>z0g.Z14 N a b c d e f g h i k) (by kernel_rfl) (f105t14 N u0 (K:=z16 (fun σ=>z5f N (z54 919) .n σ (z00 (some z4e) K)) (z00 (some z4e) K)) ..) (fx9 fun a b c d e f g h i=>f105t20 N u0 a b c d e f g h i K) (by kernel_rfl)
def zs4:z0p:=.mk (some z4e) none .n zs3
theorem f105t11 N u0 a i b c d e f g h (K:KT ρ):z5f N (z54 151) zs4 (z5a u0 a i b c d e f g h) (z00 (some z4e) K) =
  z0g.Z11 N a i b c d e f g h (fun a i b c d e f g h=>K .nrm (z5a u0 a i b c d e f g h)) (fun a e f g h b c d=>K (.exit 1) (ze3 u0 a e f g h b c d)) :=
 z05 (fun k=>z0g.Z12 N a i b c d e f g h k (fun a e f g h b c d=>K (.exit 1) (ze3 u0 a e f g h b c d))) (by kernel_rfl) (f105t12 N u0 (K:=z16 (fun σ=>z5f N (z54 407) zs3 σ (z00 (some z4e) K)) (z00 (some z4e) K)) ..) (fx9 fun a i b c d e f g h=>f105t13 N u0 a i b c d e f g h K) (by kernel_rfl)
def y60:z0p:=.mk none (some z4e) zs4 .n
abbrev y5r {ρ:Type} (N M:Nat) (σ:St) (K:KT ρ):Option ρ:=z2r (fun σ K=>z5f N (z54 151) zs4 σ K) z4e M σ K
theorem zuk {ρ:Type} (N:Nat) (u0:Value) (K:KT ρ):∀ (M:Nat) (a:LI) (i:Int) (b:List Int) (c d e f g h:Int),y5r N M (z5a u0 a i b c d e f g h) K =
 z0g.Z10L N (fun a e f g h b c d=>K (.exit 1) (ze3 u0 a e f g h b c d)) M a i b c d e f g h
 | 0,_,_,_,_,_,_,_,_,_=>rfl
 | M + 1,a,i,b,c,d,e,f,g,h=>z12 (fun k=>z0g.Z11 N a i b c d e f g h k (fun a e f g h b c d=>K (.exit 1) (ze3 u0 a e f g h b c d))) (f105t11 N u0 (K:=z16 (fun σ=>y5r N M σ K) K) ..) (fx9 fun a i b c d e f g h=>zuk N u0 K M a i b c d e f g h) (by kernel_rfl)
theorem f105t10 N u0 a i b c d e f g h (K:KT ρ):z5f N (z54 87) y60 (z5a u0 a i b c d e f g h) (z00 (some zbv) K) =
  z0g.Z10 N a i b c d e f g h (fun a e f g h b c d=>K (.exit 1) (ze3 u0 a e f g h b c d)) :=
 z1d (by kernel_rfl) (zuk N u0 (z00 (some zbv) K) N a i b c d e f g h) (by kernel_rfl)
def y5t:z0p:=.mk (some zbv) none y60 .n
theorem f105t9 N u0 a i b c d e f g h (K:KT ρ):z5f N (z54 55) y5t (z5a u0 a i b c d e f g h) (z00 (some zbv) K) =
  z0g.Z9 N a i b c d e f g h (fun a e f g h b c d=>K .nrm (ze3 u0 a e f g h b c d)) :=
 z0n (by kernel_rfl) (f105t10 N u0 (K:=z1j 1 (z00 (some zbv) K)) ..) (by kernel_rfl)
def f105p7:z0p:=.mk (some z4e) none .n y5t
theorem f105t7 N u0 a b c d e f g h (K:KT ρ):z5f N (z54 23) f105p7 (zul u0 a b c d e f g h) (z00 (some zbv) K) =
  z0g.Z7 N a b c d e f g h (fun a e f g h b c d=>K .nrm (ze3 u0 a e f g h b c d)) :=
 z05 (fun k=>z0g.Z8 N a b c d e f g h k) (by kernel_rfl) (f105t8 N u0 (K:=z16 (fun σ=>z5f N (z54 55) y5t σ (z00 (some zbv) K)) (z00 (some zbv) K)) ..) (fx9 fun a i b c d e f g h=>f105t9 N u0 a i b c d e f g h K) (by kernel_rfl)
theorem f105t21 N u0 f a b g h c d e (K:KT ρ):z5f N (z54 31) .n (ze3 u0 f a b g h c d e) (z00 (some z7v) K) =
 z0g.Z21 N f a b g h c d e (fun i a b c d e=>K .ret (zid u0 i a b c d e)):=by kernel_rfl
def y5u:z0p:=.mk (some zbv) none f105p7 .n
theorem f105t6 N u0 f a b c d e g h (K:KT ρ):z5f N (z54 15) y5u (zul u0 f a b c d e g h) (z00 (some z7v) K) =
  z0g.Z6 N f a b c d e g h (fun i d e a b c=>K .ret (zid u0 i d e a b c)) :=
 z05 (fun k=>z0g.Z7 N f a b c d e g h k) (by kernel_rfl) (f105t7 N u0 (K:=z16 (fun σ=>z5f N (z54 31) .n σ (z00 (some z7v) K)) (z00 (some z7v) K)) ..) (fx8 fun f d e g h a b c=>f105t21 N u0 f d e g h a b c K) (by kernel_rfl)
def y5v:z0p:=.mk (some f105l2) none .n y5u
theorem f105t4 N u0 a b c d e (K:KT ρ):z5f N (z54 7) y5v (zkr u0 a b c d e) (z00 (some z7v) K) =
  z0g.Z4 N a b c d e (fun f d e a b c=>K .ret (zid u0 f d e a b c)) :=
 z05 (fun k=>z0g.Z5 N a b c d e k) (by kernel_rfl) (f105t5 N u0 (K:=z16 (fun σ=>z5f N (z54 15) y5u σ (z00 (some z7v) K)) (z00 (some z7v) K)) ..) (fx8 fun g a b c d e h i=>f105t6 N u0 g a b c d e h i K) (by kernel_rfl)
def y5w:z0p:=.mk (some zun) none .n y5v
theorem f105t2 N u0 a b c d e (K:KT ρ):z5f N (z54 3) y5w (zkr u0 a b c d e) (z00 (some z7v) K) =
  z0g.Z2 N a b c d e (fun f d e a b c=>K .ret (zid u0 f d e a b c)) :=
 z05 (fun k=>z0g.Z3 N a b c d e k (fun f d e a b c=>K .ret (zid u0 f d e a b c))) (by kernel_rfl) (f105t3 N u0 (K:=z16 (fun σ=>z5f N (z54 7) y5v σ (z00 (some z7v) K)) (z00 (some z7v) K)) ..) (fx5 fun a b c d e=>f105t4 N u0 a b c d e K) (by kernel_rfl)
def y61:z0p:=.mk (some zun) none .n y5w
theorem f105t0 N u0 b0 r0 (K:KT ρ):z5f N (z54 1) y61 (y5s u0 b0 r0) (z00 (some z7v) K) =
  z0g.Z0 N b0 r0 (fun f a b c d e=>K .ret (zid u0 f a b c d e)) :=
 z05 (fun k=>z0g.Z1 N b0 r0 k) (by kernel_rfl) (f105t1 N u0 (K:=z16 (fun σ=>z5f N (z54 3) y5w σ (z00 (some z7v) K)) (z00 (some z7v) K)) ..) (fx5 fun c d e a b=>f105t2 N u0 c d e a b K) (by kernel_rfl)
theorem f105m (N:Nat) (u0:Value) (b0:List Int) (r0:Int × Int):z5f N (z54 1) y61 (y5s u0 b0 r0) (z00 (some z7v) (z7q tab y62 zps true zum Try.f105.results.toList)) = z0g.Z0 N b0 r0 (fun a b c f d e=>some ([u0],((d,e),((),((b,(c,a)),()))))) :=
 (f105t0 N u0 b0 r0 (z7q tab y62 zps true zum Try.f105.results.toList)).trans (by kernel_rfl)
theorem f105ok (h:z0g.Spec):z2u Try.prog 105 e105 :=
 z30 (k:=y62) (ps:=zps) (rs:=zum) (back:=true) (c:=(z54 1)) (pl:=y61) (je:=(some z7v)) (B:=f105B) Try.func105 (by kernel_rfl) (by kernel_rfl) (by kernel_rfl) z34 f105GOk (by kernel_rfl) (by kernel_rfl) (by kernel_rfl) fun lit X hl hb1 hb2 hp=>by
  obtain ⟨⟨⟨b0,_⟩,r0⟩,_⟩:=X
  match lit,hl with
  | [u0],_ =>
   obtain ⟨N,h⟩:=h [u0] b0 r0 hb1.1 hp
   exact ⟨N,(f105m N u0 b0 r0).trans (h N (Nat.le_refl N))⟩
theorem e105ok:z2u Try.prog 105 e105:=f105ok z0g.ok
end Go.Fw
namespace Go.Fw
variable {ρ:Type}
open Go.Proofs
def zhh:Sig:=⟨[⟨.int .i64,false,false⟩],[⟨.str,false,false⟩]⟩
def e137:z2v:=⟨zhh,(some fun X=>z0d.P X.1),fun X=>((),((z0d.g X.1),()))⟩
def f137G:Gm:=z24
theorem f137GOk:GOk Try.prog f137G:=GOk.nil
def z4n:z09:=⟨[],[],[],[],[]⟩
def y2h (a:Int):St:=z2j zhh.ps (a,())
def y2g (a:Int):St:=z1k [(0,xi a)] [] []
def f137l1:z09:=⟨[0],[],[],[],[]⟩
def zbl (a:List Int) (b:Int):St:=z1k [(0,xi b),(3,xo 1000192)] [] [(1000192,(⟨5,.int .u8,a,true,false⟩:Row))]
def zds:z09:=⟨[0,3],[],[],[],[(⟨false,3,0⟩,1000192)]⟩
def zhj (a:List Int) (b c:Int):St:=z1k [(0,xi b),(3,xo 1000192),(4,xi c)] [] [(1000192,(⟨5,.int .u8,a,true,false⟩:Row))]
def zpb:z09:=⟨[0,3,4],[],[],[],[(⟨false,3,0⟩,1000192)]⟩
def y2f (a b:List Int) (c:Int):St:=z1k [(0,xi c),(3,xo 1000192),(6,xo 1000384)] [] [(1000192,(⟨5,.int .u8,a,true,false⟩:Row)),(1000384,(⟨5,.int .u8,b,true,false⟩:Row))]
def f137l4:z09:=⟨[0,3,6],[],[],[],[(⟨false,3,0⟩,1000192),(⟨false,6,0⟩,1000384)]⟩
def ztu (a b:List Int):St:=z1k [(3,xo 1000192),(6,xo 1000384)] [] [(1000192,(⟨5,.int .u8,a,true,false⟩:Row)),(1000384,(⟨5,.int .u8,b,true,false⟩:Row))]
def f137l5:z09:=⟨[3,6],[],[],[],[(⟨false,3,0⟩,1000192),(⟨false,6,0⟩,1000384)]⟩
def zkd (a b:List Int) (c:Int):St:=z1k [(3,xo 1000192),(6,xo 1000384),(7,xi c)] [] [(1000192,(⟨5,.int .u8,a,true,false⟩:Row)),(1000384,(⟨5,.int .u8,b,true,false⟩:Row))]
def zpa:z09:=⟨[3,6,7],[],[],[],[(⟨false,3,0⟩,1000192),(⟨false,6,0⟩,1000384)]⟩
def zhi (a:List Int):St:=z1k [(6,xo 1000384)] [] [(1000384,(⟨5,.int .u8,a,true,false⟩:Row))]
def zbm:z09:=⟨[6],[],[],[],[(⟨false,6,0⟩,1000384)]⟩
def zff (a:ByteArray):St:=z1k [(2,.c (.str a))] [] []
def f137l8:z09:=⟨[2],[],[],[],[]⟩
def f137B:Nat→Option z09:=z1n [(0,zds),(2,zbm),(1000000,f137l8)]
abbrev z5o {ρ:Type} (N:Nat) (c:Code) (p:z0p) (σ:St) (K:KT ρ):Option ρ:=z1t f137G tab f137B N c p σ K
def z5d (n:Nat):Code:=z2x 99 (z25 Try.f137) n
theorem f137t1 N a (K:KT ρ):z5o N (z5d 2) .n (y2h a) (z00 (some f137l1) K) =
 z0d.Z1 N a (fun a=>K .nrm (y2g a)):=by kernel_rfl
theorem f137t3 N a (K:KT ρ):z5o N (z5d 5) .n (y2g a) (z00 (some zds) K) =
 z0d.Z3 N a (fun b a=>K .nrm (zbl b a)):=by kernel_rfl
theorem f137t5 N a b (K:KT ρ):z5o N (z5d 11) .n (zbl a b) (z00 (some zpb) K) =
 z0d.Z5 N a b (fun a b c=>K .nrm (zhj a b c)):=by kernel_rfl
theorem f137t9 N a b c (K:KT ρ):z5o N (z5d 71) .n (zhj a b c) (z00 (some zpb) K) =
 z0d.Z9 N a b c (fun a b c=>K .nrm (zhj a b c)) (fun a b=>K (.exit 0) (zbl a b)):=by kernel_rfl
def f137p8:z0p:=.mk none (some zpb) .n .n
abbrev f137w8 {ρ:Type} (N M:Nat) (σ:St) (K:KT ρ):Option ρ:=z2r (fun σ K=>z5o N (z5d 71) .n σ K) zpb M σ K
theorem y2e {ρ:Type} (N:Nat) (K:KT ρ):∀ (M:Nat) (a:List Int) (b c:Int),f137w8 N M (zhj a b c) K =
 z0d.Z8L N (fun a b=>K (.exit 0) (zbl a b)) M a b c
 | 0,_,_,_=>rfl
 | M + 1,a,b,c=>z12 (fun k=>z0d.Z9 N a b c k (fun a b=>K (.exit 0) (zbl a b))) (f137t9 N (K:=z16 (fun σ=>f137w8 N M σ K) K) ..) (fx3 fun a b c=>y2e N K M a b c) (by kernel_rfl)
theorem f137t8 N a b c (K:KT ρ):z5o N (z5d 39) f137p8 (zhj a b c) (z00 (some zds) K) =
  z0d.Z8 N a b c (fun a b=>K (.exit 0) (zbl a b)) :=
 z1d (by kernel_rfl) (y2e N (z00 (some zds) K) N a b c) (by kernel_rfl)
def f137p7:z0p:=.mk (some zds) none f137p8 .n
theorem f137t7 N a b c (K:KT ρ):z5o N (z5d 23) f137p7 (zhj a b c) (z00 (some zds) K) =
  z0d.Z7 N a b c (fun a b=>K .nrm (zbl a b)) :=
 z0n (by kernel_rfl) (f137t8 N (K:=z1j 0 (z00 (some zds) K)) ..) (by kernel_rfl)
theorem f137t11 N a b (K:KT ρ):z5o N (z5d 47) .n (zbl a b) (z00 (some f137l4) K) =
 z0d.Z11 N a b (fun a c b=>K .nrm (y2f a c b)):=by kernel_rfl
theorem f137t13 N a b c (K:KT ρ):z5o N (z5d 95) .n (y2f a b c) (z00 (some f137l5) K) =
 z0d.Z13 N a b c (fun a b=>K .nrm (ztu a b)):=by kernel_rfl
theorem f137t16 N a b (K:KT ρ):z5o N (z5d 319) .n (ztu a b) (z00 (some zpa) K) =
 z0d.Z16 N a b (fun a b c=>K .nrm (zkd a b c)):=by kernel_rfl
theorem f137t19 N b a c (K:KT ρ):z5o N (z5d 1215) .n (zkd b a c) (z00 (some zpa) K) =
 z0d.Z19 N b a c (fun b a c=>K .nrm (zkd b a c)) (fun a=>K (.exit 2) (zhi a)):=by kernel_rfl
def y2l:z0p:=.mk none (some zpa) .n .n
abbrev y2d {ρ:Type} (N M:Nat) (σ:St) (K:KT ρ):Option ρ:=z2r (fun σ K=>z5o N (z5d 1215) .n σ K) zpa M σ K
theorem ztt {ρ:Type} (N:Nat) (K:KT ρ):∀ (M:Nat) (b a:List Int) (c:Int),y2d N M (zkd b a c) K =
 z0d.Z18L N (fun a=>K (.exit 2) (zhi a)) M b a c
 | 0,_,_,_=>rfl
 | M + 1,b,a,c=>z12 (fun k=>z0d.Z19 N b a c k (fun a=>K (.exit 2) (zhi a))) (f137t19 N (K:=z16 (fun σ=>y2d N M σ K) K) ..) (fx3 fun b a c=>ztt N K M b a c) (by kernel_rfl)
theorem f137t18 N b a c (K:KT ρ):z5o N (z5d 703) y2l (zkd b a c) (z00 (some zbm) K) =
  z0d.Z18 N b a c (fun a=>K (.exit 2) (zhi a)) :=
 z1d (by kernel_rfl) (ztt N (z00 (some zbm) K) N b a c) (by kernel_rfl)
def zr9:z0p:=.mk (some zbm) none y2l .n
theorem f137t17 N b a c (K:KT ρ):z5o N (z5d 447) zr9 (zkd b a c) (z00 (some zbm) K) =
  z0d.Z17 N b a c (fun a=>K .nrm (zhi a)) :=
 z0n (by kernel_rfl) (f137t18 N (K:=z1j 2 (z00 (some zbm) K)) ..) (by kernel_rfl)
def y2m:z0p:=.mk (some zpa) none .n zr9
theorem f137t15 N b a (K:KT ρ):z5o N (z5d 191) y2m (ztu b a) (z00 (some zbm) K) =
  z0d.Z15 N b a (fun a=>K .nrm (zhi a)) :=
 z05 (fun k=>z0d.Z16 N b a k) (by kernel_rfl) (f137t16 N (K:=z16 (fun σ=>z5o N (z5d 447) zr9 σ (z00 (some zbm) K)) (z00 (some zbm) K)) ..) (fx3 fun b a c=>f137t17 N b a c K) (by kernel_rfl)
theorem f137t20 N a (K:KT ρ):z5o N (z5d 255) .n (zhi a) (z00 (some z4n) K) =
 z0d.Z20 N a (fun b=>K .ret (zff b)):=by kernel_rfl
def zra:z0p:=.mk (some zbm) none y2m .n
theorem f137t14 N b a (K:KT ρ):z5o N (z5d 127) zra (ztu b a) (z00 (some z4n) K) =
  z0d.Z14 N b a (fun c=>K .ret (zff c)) :=
 z05 (fun k=>z0d.Z15 N b a k) (by kernel_rfl) (f137t15 N (K:=z16 (fun σ=>z5o N (z5d 255) .n σ (z00 (some z4n) K)) (z00 (some z4n) K)) ..) (funext fun a=>f137t20 N a K) (by kernel_rfl)
def zrb:z0p:=.mk (some f137l5) none .n zra
theorem f137t12 N a b c (K:KT ρ):z5o N (z5d 63) zrb (y2f a b c) (z00 (some z4n) K) =
  z0d.Z12 N a b c (fun d=>K .ret (zff d)) :=
 z05 (fun k=>z0d.Z13 N a b c k) (by kernel_rfl) (f137t13 N (K:=z16 (fun σ=>z5o N (z5d 127) zra σ (z00 (some z4n) K)) (z00 (some z4n) K)) ..) (fx2 fun a b=>f137t14 N a b K) (by kernel_rfl)
def zrc:z0p:=.mk (some f137l4) none .n zrb
theorem f137t10 N a b (K:KT ρ):z5o N (z5d 31) zrc (zbl a b) (z00 (some z4n) K) =
  z0d.Z10 N a b (fun c=>K .ret (zff c)) :=
 z05 (fun k=>z0d.Z11 N a b k) (by kernel_rfl) (f137t11 N (K:=z16 (fun σ=>z5o N (z5d 63) zrb σ (z00 (some z4n) K)) (z00 (some z4n) K)) ..) (fx3 fun a d b=>f137t12 N a d b K) (by kernel_rfl)
def y2i:z0p:=.mk (some zds) none f137p7 zrc
theorem f137t6 N a b c (K:KT ρ):z5o N (z5d 15) y2i (zhj a b c) (z00 (some z4n) K) =
  z0d.Z6 N a b c (fun d=>K .ret (zff d)) :=
 z05 (fun k=>z0d.Z7 N a b c k) (by kernel_rfl) (f137t7 N (K:=z16 (fun σ=>z5o N (z5d 31) zrc σ (z00 (some z4n) K)) (z00 (some z4n) K)) ..) (fx2 fun a b=>f137t10 N a b K) (by kernel_rfl)
def y2j:z0p:=.mk (some zpb) none .n y2i
theorem f137t4 N a b (K:KT ρ):z5o N (z5d 7) y2j (zbl a b) (z00 (some z4n) K) =
  z0d.Z4 N a b (fun c=>K .ret (zff c)) :=
 z05 (fun k=>z0d.Z5 N a b k) (by kernel_rfl) (f137t5 N (K:=z16 (fun σ=>z5o N (z5d 15) y2i σ (z00 (some z4n) K)) (z00 (some z4n) K)) ..) (fx3 fun a b d=>f137t6 N a b d K) (by kernel_rfl)
def y2k:z0p:=.mk (some zds) none .n y2j
theorem f137t2 N a (K:KT ρ):z5o N (z5d 3) y2k (y2g a) (z00 (some z4n) K) =
  z0d.Z2 N a (fun b=>K .ret (zff b)) :=
 z05 (fun k=>z0d.Z3 N a k) (by kernel_rfl) (f137t3 N (K:=z16 (fun σ=>z5o N (z5d 7) y2j σ (z00 (some z4n) K)) (z00 (some z4n) K)) ..) (fx2 fun c a=>f137t4 N c a K) (by kernel_rfl)
def y2n:z0p:=.mk (some f137l1) none .n y2k
theorem f137t0 N a (K:KT ρ):z5o N (z5d 1) y2n (y2h a) (z00 (some z4n) K) =
  z0d.Z0 N a (fun b=>K .ret (zff b)) :=
 z05 (fun k=>z0d.Z1 N a k) (by kernel_rfl) (f137t1 N (K:=z16 (fun σ=>z5o N (z5d 3) y2k σ (z00 (some z4n) K)) (z00 (some z4n) K)) ..) (funext fun a=>f137t2 N a K) (by kernel_rfl)
theorem f137m (N:Nat) (a:Int):z5o N (z5d 1) y2n (y2h a) (z00 (some z4n) (z3o tab zhh Try.f137.results.toList)) = z0d.Z0 N a (fun b=>some ((),(b,()))) :=
 (f137t0 N a (z3o tab zhh Try.f137.results.toList)).trans (by kernel_rfl)
theorem f137ok (h:z0d.Spec):z0r Try.prog 137 e137 :=
 z0k (sig:=zhh) (c:=(z5d 1)) (pl:=y2n) (je:=(some z4n)) (B:=f137B) Try.func137 (by kernel_rfl) (by kernel_rfl) (by kernel_rfl) z34 f137GOk (by kernel_rfl) (by kernel_rfl) (by kernel_rfl) (by kernel_rfl) fun X hb hp=>by
  obtain ⟨a,_⟩:=X
  obtain ⟨N,h⟩:=h a hp
  exact ⟨N,(f137m N a).trans (h N (Nat.le_refl N))⟩
theorem e137ok:z0r Try.prog 137 e137:=f137ok z0d.ok
end Go.Fw
namespace Go.Fw
variable {ρ:Type}
open Go.Proofs
def y45:zey:=⟨113,[(5,.int .u8)],.pair (.int .i64) (.int .i64)⟩
def zpg:List PT:=[⟨.int .i64,false,false⟩]
def zu6:List PT:=[⟨.pair (.int .i64) (.pair (.int .i64) (.sl 3 (.int .i64))),true,false⟩,⟨.str,false,false⟩]
def e126:z5q:=⟨y45,zpg,true,zu6,(some fun X=>spec_dTree.P X.1.1.1 X.1.2 X.2.1),fun X=>((spec_dTree.g X.1.1.1 X.1.2 X.2.1).1,((),((spec_dTree.g X.1.1.1 X.1.2 X.2.1).2.1,((spec_dTree.g X.1.1.1 X.1.2 X.2.1).2.2,()))))⟩
def f126G:Gm:=z4p (addV (z4p (addV z24 69 e69) 124 e124) 125 e125) 137 e137
theorem f126GOk:GOk Try.prog f126G:=((((GOk.nil).addV zs7 (by kernel_rfl)).add e124ok (by kernel_rfl)).addV e125ok (by kernel_rfl)).add e137ok (by kernel_rfl)
def z4c:z09:=⟨[],[],[],[],[]⟩
def y3i (u0:Value) (b0:List Int) (r0:Int × Int) (a:Int):St:=z3v y45 zpg [u0] (((b0,()),r0),(a,()))
def y3h (u0:Value) (a:Int) (b:List Int) (c d e f:Int):St:=z1k [(0,xb 100000),(1,xi a),(4,xb 4),(100000,xb 100000)] [(100000,(113,[.bor u0 5 (.int .u8) b,yi c,yi d])),(4,(30,[yi e,yi f,.nil]))] []
def f126l1:z09:=⟨[0,1,4,100000],[100000,4],[],[],[]⟩
def y3g (u0:Value) (a b:Int) (c:List Int) (d e f g:Int):St:=z1k [(0,xb 100000),(1,xi a),(4,xb 4),(6,xi b),(100000,xb 100000)] [(100000,(113,[.bor u0 5 (.int .u8) c,yi d,yi e])),(4,(30,[yi f,yi g,.nil]))] []
def f126l2:z09:=⟨[0,1,4,6,100000],[100000,4],[],[],[]⟩
def zki (u0:Value) (a b c:Int) (d:List Int) (e f g h:Int):St:=z1k [(0,xb 100000),(1,xi a),(4,xb 4),(6,xi b),(7,xi c),(100000,xb 100000)] [(100000,(113,[.bor u0 5 (.int .u8) d,yi e,yi f])),(4,(30,[yi g,yi h,.nil]))] []
def zu7:z09:=⟨[0,1,4,6,7,100000],[100000,4],[],[],[]⟩
def zu5 (u0:Value) (a b:Int) (c:List Int) (d e f g:Int):St:=z1k [(0,xb 100000),(4,xb 4),(6,xi a),(7,xi b),(100000,xb 100000)] [(100000,(113,[.bor u0 5 (.int .u8) c,yi d,yi e])),(4,(30,[yi f,yi g,.nil]))] []
def f126l4:z09:=⟨[0,4,6,7,100000],[100000,4],[],[],[]⟩
def zu4 (u0:Value) (a b c:Int) (d:List Int) (e f g h:Int):St:=z1k [(0,xb 100000),(4,xb 4),(6,xi a),(7,xi b),(64,xi c),(100000,xb 100000)] [(100000,(113,[.bor u0 5 (.int .u8) d,yi e,yi f])),(4,(30,[yi g,yi h,.nil]))] []
def f126l5:z09:=⟨[0,4,6,7,64,100000],[100000,4],[],[],[]⟩
def zkh (u0:Value) (a b c:Int) (d:Bool) (e:List Int) (f g h i:Int):St:=z1k [(0,xb 100000),(4,xb 4),(6,xi a),(7,xi b),(64,xi c),(65,xB d),(100000,xb 100000)] [(100000,(113,[.bor u0 5 (.int .u8) e,yi f,yi g])),(4,(30,[yi h,yi i,.nil]))] []
def f126l6:z09:=⟨[0,4,6,7,64,65,100000],[100000,4],[],[],[]⟩
def zah (u0:Value) (a:LI) (b c:Int) (d:List Int) (e f g h i j:Int):St:=z1k [(0,xb 100000),(4,xb 4),(6,xi b),(7,xi c),(8,xb 8),(100000,xb 100000)] [(100000,(113,[.bor u0 5 (.int .u8) d,yi e,yi f])),(4,(30,[yi g,yi h,.nil])),(8,(30,[yi i,yi j,.own 20000514]))] [(20000514,(⟨3,.int .i64,a,true,false⟩:Row))]
def z9r:z09:=⟨[0,4,6,7,8,100000],[100000,4,8],[],[],[(⟨true,8,2⟩,20000514)]⟩
def zkg (u0:Value) (a:LI) (b c d:Int) (e:List Int) (f g h i j l:Int):St:=z1k [(0,xb 100000),(4,xb 4),(6,xi b),(7,xi c),(8,xb 8),(9,xi d),(100000,xb 100000)] [(100000,(113,[.bor u0 5 (.int .u8) e,yi f,yi g])),(4,(30,[yi h,yi i,.nil])),(8,(30,[yi j,yi l,.own 20000514]))] [(20000514,(⟨3,.int .i64,a,true,false⟩:Row))]
def zph:z09:=⟨[0,4,6,7,8,9,100000],[100000,4,8],[],[],[(⟨true,8,2⟩,20000514)]⟩
def zpf (u0:Value) (a b:Int) (c:Bool) (d:List Int) (e f g h:Int):St:=z1k [(0,xb 100000),(4,xb 4),(7,xi a),(64,xi b),(110,xB c),(100000,xb 100000)] [(100000,(113,[.bor u0 5 (.int .u8) d,yi e,yi f])),(4,(30,[yi g,yi h,.nil]))] []
def f126l9:z09:=⟨[0,4,7,64,110,100000],[100000,4],[],[],[]⟩
def zhr (u0:Value) (a b:Int) (c:Bool) (d:List Int) (e f g h:Int):St:=z1k [(0,xb 100000),(4,xb 4),(7,xi a),(64,xi b),(119,xB c),(100000,xb 100000)] [(100000,(113,[.bor u0 5 (.int .u8) d,yi e,yi f])),(4,(30,[yi g,yi h,.nil]))] []
def y44:z09:=⟨[0,4,7,64,119,100000],[100000,4],[],[],[]⟩
def zhq (u0:Value) (a b:Int) (c:Bool) (d:List Int) (e f g h:Int):St:=z1k [(0,xb 100000),(4,xb 4),(7,xi a),(64,xi b),(126,xB c),(100000,xb 100000)] [(100000,(113,[.bor u0 5 (.int .u8) d,yi e,yi f])),(4,(30,[yi g,yi h,.nil]))] []
def y43:z09:=⟨[0,4,7,64,126,100000],[100000,4],[],[],[]⟩
def zm9 (u0:Value) (a:LI) (b:List Int) (c d e f g h:Int):St:=z1k [(0,xb 100000),(4,xb 4),(12,xb 12),(100000,xb 100000)] [(100000,(113,[.bor u0 5 (.int .u8) b,yi c,yi d])),(4,(30,[yi e,yi f,.nil])),(12,(30,[yi g,yi h,.own 20000770]))] [(20000770,(⟨3,.int .i64,a,true,false⟩:Row))]
def y42:z09:=⟨[0,4,12,100000],[100000,4,12],[],[],[(⟨true,12,2⟩,20000770)]⟩
def zer (u0:Value) (a:LI) (b:Int) (c:List Int) (d e f g h i:Int):St:=z1k [(0,xb 100000),(4,xb 4),(12,xb 12),(13,xi b),(100000,xb 100000)] [(100000,(113,[.bor u0 5 (.int .u8) c,yi d,yi e])),(4,(30,[yi f,yi g,.nil])),(12,(30,[yi h,yi i,.own 20000770]))] [(20000770,(⟨3,.int .i64,a,true,false⟩:Row))]
def zht:z09:=⟨[0,4,12,13,100000],[100000,4,12],[],[],[(⟨true,12,2⟩,20000770)]⟩
def zcr (u0:Value) (a:LI) (b c d e:Int) (f:List Int) (g h:Int):St:=z1k [(4,xb 4),(12,xb 12),(100000,xb 100000)] [(4,(30,[yi b,yi c,.nil])),(12,(30,[yi d,yi e,.own 20000770])),(100000,(113,[.bor u0 5 (.int .u8) f,yi g,yi h]))] [(20000770,(⟨3,.int .i64,a,true,false⟩:Row))]
def z8j:z09:=⟨[4,12,100000],[4,12,100000],[],[],[(⟨true,12,2⟩,20000770)]⟩
def z6w (u0:Value) (a:Int) (b:List Int) (c d e f:Int):St:=z1k [(0,xb 100000),(4,xb 4),(7,xi a),(100000,xb 100000)] [(100000,(113,[.bor u0 5 (.int .u8) b,yi c,yi d])),(4,(30,[yi e,yi f,.nil]))] []
def z2d:z09:=⟨[0,4,7,100000],[100000,4],[],[],[]⟩
def zm8 (u0:Value) (a:LI) (b:Int) (c:List Int) (d e f g h i:Int):St:=z1k [(0,xb 100000),(4,xb 4),(7,xi b),(16,xb 16),(100000,xb 100000)] [(100000,(113,[.bor u0 5 (.int .u8) c,yi d,yi e])),(4,(30,[yi f,yi g,.nil])),(16,(30,[yi h,yi i,.own 20001026]))] [(20001026,(⟨3,.int .i64,a,true,false⟩:Row))]
def y41:z09:=⟨[0,4,7,16,100000],[100000,4,16],[],[],[(⟨true,16,2⟩,20001026)]⟩
def zeq (u0:Value) (a:LI) (b c:Int) (d:List Int) (e f g h i j:Int):St:=z1k [(0,xb 100000),(4,xb 4),(7,xi b),(16,xb 16),(17,xi c),(100000,xb 100000)] [(100000,(113,[.bor u0 5 (.int .u8) d,yi e,yi f])),(4,(30,[yi g,yi h,.nil])),(16,(30,[yi i,yi j,.own 20001026]))] [(20001026,(⟨3,.int .i64,a,true,false⟩:Row))]
def zhs:z09:=⟨[0,4,7,16,17,100000],[100000,4,16],[],[],[(⟨true,16,2⟩,20001026)]⟩
def zcq (u0:Value) (a:LI) (b c d e f:Int) (g:List Int) (h i:Int):St:=z1k [(4,xb 4),(7,xi b),(16,xb 16),(100000,xb 100000)] [(4,(30,[yi c,yi d,.nil])),(16,(30,[yi e,yi f,.own 20001026])),(100000,(113,[.bor u0 5 (.int .u8) g,yi h,yi i]))] [(20001026,(⟨3,.int .i64,a,true,false⟩:Row))]
def z8i:z09:=⟨[4,7,16,100000],[4,16,100000],[],[],[(⟨true,16,2⟩,20001026)]⟩
def z39 (u0:Value) (a:LI) (b:ByteArray) (d e:Int) (f:List Int) (g h:Int):St:=z1k [(4,xb 4),(5,.c (.str b)),(100000,xb 100000)] [(4,(30,[yi d,yi e,.own 20000258])),(100000,(113,[.bor u0 5 (.int .u8) f,yi g,yi h]))] [(20000258,(⟨3,.int .i64,a,true,false⟩:Row))]
def f126l19:z09:=⟨[4,5,100000],[4,100000],[],[],[(⟨true,4,2⟩,20000258)]⟩
def f126B:Nat→Option z09:=z1n [(1,z9r),(3,z8j),(0,z2d),(5,z8i),(1000000,f126l19)]
abbrev z2i {ρ:Type} (N:Nat) (c:Code) (p:z0p) (σ:St) (K:KT ρ):Option ρ:=z1t f126G tab f126B N c p σ K
def z2g (n:Nat):Code:=z2x 99 (z25 Try.f126) n
theorem f126t1 N u0 b0 r0 a (K:KT ρ):z2i N (z2g 2) .n (y3i u0 b0 r0 a) (z00 (some f126l1) K) =
 spec_dTree.Z1 N b0 r0 a (fun a b c d e f=>K .nrm (y3h u0 a b c d e f)):=by kernel_rfl
theorem f126t3 N u0 a b c d e f (K:KT ρ):z2i N (z2g 5) .n (y3h u0 a b c d e f) (z00 (some f126l2) K) =
 spec_dTree.Z3 N a b c d e f (fun a g b c d e f=>K .nrm (y3g u0 a g b c d e f)):=by kernel_rfl
theorem f126t5 N u0 a b c d e f g (K:KT ρ):z2i N (z2g 11) .n (y3g u0 a b c d e f g) (z00 (some zu7) K) =
 spec_dTree.Z5 N a b c d e f g (fun a b h c d e f g=>K .nrm (zki u0 a b h c d e f g)):=by kernel_rfl
theorem f126t7 N u0 a b c d e f g h (K:KT ρ):z2i N (z2g 23) .n (zki u0 a b c d e f g h) (z00 (some zu7) K) =
 spec_dTree.Z7 N a b c d e f g h (fun a b c d e f g h=>K .nrm (zki u0 a b c d e f g h)):=by kernel_rfl
theorem f126t9 N u0 h a b c d e f g (K:KT ρ):z2i N (z2g 47) .n (zki u0 h a b c d e f g) (z00 (some f126l4) K) =
 spec_dTree.Z9 N h a b c d e f g (fun a b c d e f g=>K .nrm (zu5 u0 a b c d e f g)):=by kernel_rfl
theorem f126t12 N u0 a b c d e f g (K:KT ρ):z2i N (z2g 159) .n (zu5 u0 a b c d e f g) (z00 (some f126l5) K) =
 spec_dTree.Z12 N a b c d e f g (fun a b h c d e f g=>K .nrm (zu4 u0 a b h c d e f g)):=by kernel_rfl
theorem f126t15 N u0 a b c d e f g h (K:KT ρ):z2i N (z2g 607) .n (zu4 u0 a b c d e f g h) (z00 (some f126l6) K) =
 spec_dTree.Z15 N a b c d e f g h (fun a b c i d e f g h=>K .nrm (zkh u0 a b c i d e f g h)):=by kernel_rfl
theorem f126t18 N u0 a b h i c d e f g (K:KT ρ):z2i N (z2g 2399) .n (zkh u0 a b h i c d e f g) (z00 (some z9r) K) =
 spec_dTree.Z18 N a b h i c d e f g (fun j a b c d e f g l m=>K .nrm (zah u0 j a b c d e f g l m)):=by kernel_rfl
theorem f126t21 N u0 a b c d e f g h i j (K:KT ρ):z2i N (z2g 9567) .n (zah u0 a b c d e f g h i j) (z00 (some zph) K) =
 spec_dTree.Z21 N a b c d e f g h i j (fun a b c l d e f g h i j=>K .nrm (zkg u0 a b c l d e f g h i j)):=by kernel_rfl
theorem f126t24 N u0 a b c l d e f g h i j (K:KT ρ):z2i N (z2g 38239) .n (zkg u0 a b c l d e f g h i j) (z00 (some zph) K) =
 spec_dTree.Z24 N a b c l d e f g h i j (fun a b c l d e f g h i j=>K .nrm (zkg u0 a b c l d e f g h i j)) (fun a b c d e f g h i j=>K (.exit 1) (zah u0 a b c d e f g h i j)):=by kernel_rfl
def y3u:z0p:=.mk none (some zph) .n .n
abbrev y3f {ρ:Type} (N M:Nat) (σ:St) (K:KT ρ):Option ρ:=z2r (fun σ K=>z2i N (z2g 38239) .n σ K) zph M σ K
theorem zu3 {ρ:Type} (N:Nat) (u0:Value) (K:KT ρ):∀ (M:Nat) (a:LI) (b c l:Int) (d:List Int) (e f g h i j:Int),y3f N M (zkg u0 a b c l d e f g h i j) K =
 spec_dTree.Z23L N (fun a b c d e f g h i j=>K (.exit 1) (zah u0 a b c d e f g h i j)) M a b c l d e f g h i j
 | 0,_,_,_,_,_,_,_,_,_,_,_=>rfl
 | M + 1,a,b,c,l,d,e,f,g,h,i,j=>z12 (fun k=>spec_dTree.Z24 N a b c l d e f g h i j k (fun a b c d e f g h i j=>K (.exit 1) (zah u0 a b c d e f g h i j))) (f126t24 N u0 (K:=z16 (fun σ=>y3f N M σ K) K) ..) (zk5 fun a b c l d e f g h i j=>zu3 N u0 K M a b c l d e f g h i j) (by kernel_rfl)
theorem f126t23 N u0 a b c l d e f g h i j (K:KT ρ):z2i N (z2g 21855) y3u (zkg u0 a b c l d e f g h i j) (z00 (some z9r) K) =
  spec_dTree.Z23 N a b c l d e f g h i j (fun a b c d e f g h i j=>K (.exit 1) (zah u0 a b c d e f g h i j)) :=
 z1d (by kernel_rfl) (zu3 N u0 (z00 (some z9r) K) N a b c l d e f g h i j) (by kernel_rfl)
def zrp:z0p:=.mk (some z9r) none y3u .n
theorem f126t22 N u0 a b c l d e f g h i j (K:KT ρ):z2i N (z2g 13663) zrp (zkg u0 a b c l d e f g h i j) (z00 (some z9r) K) =
  spec_dTree.Z22 N a b c l d e f g h i j (fun a b c d e f g h i j=>K .nrm (zah u0 a b c d e f g h i j)) :=
 z0n (by kernel_rfl) (f126t23 N u0 (K:=z1j 1 (z00 (some z9r) K)) ..) (by kernel_rfl)
def y3v:z0p:=.mk (some zph) none .n zrp
theorem f126t20 N u0 a b c d e f g h i j (K:KT ρ):z2i N (z2g 5471) y3v (zah u0 a b c d e f g h i j) (z00 (some z9r) K) =
  spec_dTree.Z20 N a b c d e f g h i j (fun a b c d e f g h i j=>K .nrm (zah u0 a b c d e f g h i j)) :=
 z05 (fun k=>spec_dTree.Z21 N a b c d e f g h i j k) (by kernel_rfl) (f126t21 N u0 (K:=z16 (fun σ=>z2i N (z2g 13663) zrp σ (z00 (some z9r) K)) (z00 (some z9r) K)) ..) (zk5 fun a b c l d e f g h i j=>f126t22 N u0 a b c l d e f g h i j K) (by kernel_rfl)
theorem f126t25 N u0 f g h a b c d e i j (K:KT ρ):z2i N (z2g 7519) .n (zah u0 f g h a b c d e i j) (z00 (some z2d) K) =
 spec_dTree.Z25 N f g h a b c d e i j (fun l m d e a b c=>K .ret (z39 u0 l m d e a b c)):=by kernel_rfl
def zrq:z0p:=.mk (some z9r) none y3v .n
theorem f126t19 N u0 f g h a b c d e i j (K:KT ρ):z2i N (z2g 3423) zrq (zah u0 f g h a b c d e i j) (z00 (some z2d) K) =
  spec_dTree.Z19 N f g h a b c d e i j (fun l m d e a b c=>K .ret (z39 u0 l m d e a b c)) :=
 z05 (fun k=>spec_dTree.Z20 N f g h a b c d e i j k) (by kernel_rfl) (f126t20 N u0 (K:=z16 (fun σ=>z2i N (z2g 7519) .n σ (z00 (some z2d) K)) (z00 (some z2d) K)) ..) (zb5 fun f g h a b c d e i j=>f126t25 N u0 f g h a b c d e i j K) (by kernel_rfl)
def y3x:z0p:=.mk (some z9r) none .n zrq
theorem f126t17 N u0 f g h i a b c d e (K:KT ρ):z2i N (z2g 1375) y3x (zkh u0 f g h i a b c d e) (z00 (some z2d) K) =
  spec_dTree.Z17 N f g h i a b c d e (fun j l d e a b c=>K .ret (z39 u0 j l d e a b c)) :=
 z05 (fun k=>spec_dTree.Z18 N f g h i a b c d e k) (by kernel_rfl) (f126t18 N u0 (K:=z16 (fun σ=>z2i N (z2g 3423) zrq σ (z00 (some z2d) K)) (z00 (some z2d) K)) ..) (zb5 fun m f g a b c d e o p=>f126t19 N u0 m f g a b c d e o p K) (by kernel_rfl)
theorem f126t27 N u0 h a b i c d e f g (K:KT ρ):z2i N (z2g 2911) .n (zkh u0 h a b i c d e f g) (z00 (some f126l9) K) =
 spec_dTree.Z27 N h a b i c d e f g (fun a b j c d e f g=>K .nrm (zpf u0 a b j c d e f g)):=by kernel_rfl
theorem f126t29 N u0 f g h a b c d e (K:KT ρ):z2i N (z2g 5983) .n (zpf u0 f g h a b c d e) (z00 (some z2d) K) =
 spec_dTree.Z29 N f g h a b c d e (fun i j d e a b c=>K .ret (z39 u0 i j d e a b c)):=by kernel_rfl
theorem f126t31 N u0 a b h c d e f g (K:KT ρ):z2i N (z2g 12127) .n (zpf u0 a b h c d e f g) (z00 (some y44) K) =
 spec_dTree.Z31 N a b h c d e f g (fun a b i c d e f g=>K .nrm (zhr u0 a b i c d e f g)):=by kernel_rfl
theorem f126t33 N u0 f g h a b c d e (K:KT ρ):z2i N (z2g 24415) .n (zhr u0 f g h a b c d e) (z00 (some z2d) K) =
 spec_dTree.Z33 N f g h a b c d e (fun i j d e a b c=>K .ret (z39 u0 i j d e a b c)):=by kernel_rfl
theorem f126t35 N u0 a b h c d e f g (K:KT ρ):z2i N (z2g 48991) .n (zhr u0 a b h c d e f g) (z00 (some y43) K) =
 spec_dTree.Z35 N a b h c d e f g (fun a b i c d e f g=>K .nrm (zhq u0 a b i c d e f g)):=by kernel_rfl
theorem f126t38 N u0 f g h a b c d e (K:KT ρ):z2i N (z2g 163679) .n (zhq u0 f g h a b c d e) (z00 (some y42) K) =
 spec_dTree.Z38 N f g h a b c d e (fun i a b c d e j l=>K .nrm (zm9 u0 i a b c d e j l)):=by kernel_rfl
theorem f126t41 N u0 a b c d e f g h (K:KT ρ):z2i N (z2g 622431) .n (zm9 u0 a b c d e f g h) (z00 (some zht) K) =
 spec_dTree.Z41 N a b c d e f g h (fun a i b c d e f g h=>K .nrm (zer u0 a i b c d e f g h)):=by kernel_rfl
theorem f126t44 N u0 a i b c d e f g h (K:KT ρ):z2i N (z2g 2457439) .n (zer u0 a i b c d e f g h) (z00 (some zht) K) =
 spec_dTree.Z44 N a i b c d e f g h (fun a i b c d e f g h=>K .nrm (zer u0 a i b c d e f g h)) (fun a e f g h b c d=>K (.exit 3) (zcr u0 a e f g h b c d)):=by kernel_rfl
def y3n:z0p:=.mk none (some zht) .n .n
abbrev y3e {ρ:Type} (N M:Nat) (σ:St) (K:KT ρ):Option ρ:=z2r (fun σ K=>z2i N (z2g 2457439) .n σ K) zht M σ K
theorem zu2 {ρ:Type} (N:Nat) (u0:Value) (K:KT ρ):∀ (M:Nat) (a:LI) (i:Int) (b:List Int) (c d e f g h:Int),y3e N M (zer u0 a i b c d e f g h) K =
 spec_dTree.Z43L N (fun a e f g h b c d=>K (.exit 3) (zcr u0 a e f g h b c d)) M a i b c d e f g h
 | 0,_,_,_,_,_,_,_,_,_=>rfl
 | M + 1,a,i,b,c,d,e,f,g,h=>z12 (fun k=>spec_dTree.Z44 N a i b c d e f g h k (fun a e f g h b c d=>K (.exit 3) (zcr u0 a e f g h b c d))) (f126t44 N u0 (K:=z16 (fun σ=>y3e N M σ K) K) ..) (fx9 fun a i b c d e f g h=>zu2 N u0 K M a i b c d e f g h) (by kernel_rfl)
theorem f126t43 N u0 a i b c d e f g h (K:KT ρ):z2i N (z2g 1408863) y3n (zer u0 a i b c d e f g h) (z00 (some z8j) K) =
  spec_dTree.Z43 N a i b c d e f g h (fun a e f g h b c d=>K (.exit 3) (zcr u0 a e f g h b c d)) :=
 z1d (by kernel_rfl) (zu2 N u0 (z00 (some z8j) K) N a i b c d e f g h) (by kernel_rfl)
def zrk:z0p:=.mk (some z8j) none y3n .n
theorem f126t42 N u0 a i b c d e f g h (K:KT ρ):z2i N (z2g 884575) zrk (zer u0 a i b c d e f g h) (z00 (some z8j) K) =
  spec_dTree.Z42 N a i b c d e f g h (fun a e f g h b c d=>K .nrm (zcr u0 a e f g h b c d)) :=
 z0n (by kernel_rfl) (f126t43 N u0 (K:=z1j 3 (z00 (some z8j) K)) ..) (by kernel_rfl)
def y3o:z0p:=.mk (some zht) none .n zrk
theorem f126t40 N u0 a b c d e f g h (K:KT ρ):z2i N (z2g 360287) y3o (zm9 u0 a b c d e f g h) (z00 (some z8j) K) =
  spec_dTree.Z40 N a b c d e f g h (fun a e f g h b c d=>K .nrm (zcr u0 a e f g h b c d)) :=
 z05 (fun k=>spec_dTree.Z41 N a b c d e f g h k) (by kernel_rfl) (f126t41 N u0 (K:=z16 (fun σ=>z2i N (z2g 884575) zrk σ (z00 (some z8j) K)) (z00 (some z8j) K)) ..) (fx9 fun a i b c d e f g h=>f126t42 N u0 a i b c d e f g h K) (by kernel_rfl)
theorem f126t45 N u0 f a b g h c d e (K:KT ρ):z2i N (z2g 491359) .n (zcr u0 f a b g h c d e) (z00 (some z2d) K) =
 spec_dTree.Z45 N f a b g h c d e (fun i j a b c d e=>K .ret (z39 u0 i j a b c d e)):=by kernel_rfl
def zrl:z0p:=.mk (some z8j) none y3o .n
theorem f126t39 N u0 f a b c d e g h (K:KT ρ):z2i N (z2g 229215) zrl (zm9 u0 f a b c d e g h) (z00 (some z2d) K) =
  spec_dTree.Z39 N f a b c d e g h (fun i j d e a b c=>K .ret (z39 u0 i j d e a b c)) :=
 z05 (fun k=>spec_dTree.Z40 N f a b c d e g h k) (by kernel_rfl) (f126t40 N u0 (K:=z16 (fun σ=>z2i N (z2g 491359) .n σ (z00 (some z2d) K)) (z00 (some z2d) K)) ..) (fx8 fun f d e g h a b c=>f126t45 N u0 f d e g h a b c K) (by kernel_rfl)
def y3q:z0p:=.mk (some y42) none .n zrl
theorem f126t37 N u0 f g h a b c d e (K:KT ρ):z2i N (z2g 98143) y3q (zhq u0 f g h a b c d e) (z00 (some z2d) K) =
  spec_dTree.Z37 N f g h a b c d e (fun i j d e a b c=>K .ret (z39 u0 i j d e a b c)) :=
 z05 (fun k=>spec_dTree.Z38 N f g h a b c d e k) (by kernel_rfl) (f126t38 N u0 (K:=z16 (fun σ=>z2i N (z2g 229215) zrl σ (z00 (some z2d) K)) (z00 (some z2d) K)) ..) (fx8 fun l a b c d e m o=>f126t39 N u0 l a b c d e m o K) (by kernel_rfl)
theorem f126t46 N u0 f g h a b c d e (K:KT ρ):z2i N (z2g 130911) .n (zhq u0 f g h a b c d e) (z00 (some z2d) K) =
 spec_dTree.Z46 N f g h a b c d e (fun f a b c d e=>K .nrm (z6w u0 f a b c d e)) (fun i j d e a b c=>K .ret (z39 u0 i j d e a b c)):=by kernel_rfl
def zrm:z0p:=.mk none none y3q .n
theorem f126t36 N u0 f h g a b c d e (K:KT ρ):z2i N (z2g 65375) zrm (zhq u0 f h g a b c d e) (z00 (some z2d) K) =
  spec_dTree.Z36 N f h g a b c d e (fun f a b c d e=>K .nrm (z6w u0 f a b c d e)) (fun i j d e a b c=>K .ret (z39 u0 i j d e a b c)) :=
 zg7 (x:=.tmp 126) (t:=g) (by kernel_rfl) (f126t37 N u0 (K:=K) ..) (f126t46 N u0 (K:=K) ..) (by kernel_rfl)
def y3r:z0p:=.mk (some y43) none .n zrm
theorem f126t34 N u0 f g h a b c d e (K:KT ρ):z2i N (z2g 32607) y3r (zhr u0 f g h a b c d e) (z00 (some z2d) K) =
  spec_dTree.Z34 N f g h a b c d e (fun f a b c d e=>K .nrm (z6w u0 f a b c d e)) (fun i j d e a b c=>K .ret (z39 u0 i j d e a b c)) :=
 z05 (fun k=>spec_dTree.Z35 N f g h a b c d e k) (by kernel_rfl) (f126t35 N u0 (K:=z16 (fun σ=>z2i N (z2g 65375) zrm σ (z00 (some z2d) K)) (z00 (some z2d) K)) ..) (fx8 fun f g l a b c d e=>f126t36 N u0 f g l a b c d e K) (by kernel_rfl)
def zrn:z0p:=.mk none none .n y3r
theorem f126t32 N u0 f h g a b c d e (K:KT ρ):z2i N (z2g 16223) zrn (zhr u0 f h g a b c d e) (z00 (some z2d) K) =
  spec_dTree.Z32 N f h g a b c d e (fun f a b c d e=>K .nrm (z6w u0 f a b c d e)) (fun i j d e a b c=>K .ret (z39 u0 i j d e a b c)) :=
 zg7 (x:=.tmp 119) (t:=g) (by kernel_rfl) (f126t33 N u0 (K:=K) ..) (f126t34 N u0 (K:=K) ..) (by kernel_rfl)
def y3s:z0p:=.mk (some y44) none .n zrn
theorem f126t30 N u0 f g h a b c d e (K:KT ρ):z2i N (z2g 8031) y3s (zpf u0 f g h a b c d e) (z00 (some z2d) K) =
  spec_dTree.Z30 N f g h a b c d e (fun f a b c d e=>K .nrm (z6w u0 f a b c d e)) (fun i j d e a b c=>K .ret (z39 u0 i j d e a b c)) :=
 z05 (fun k=>spec_dTree.Z31 N f g h a b c d e k) (by kernel_rfl) (f126t31 N u0 (K:=z16 (fun σ=>z2i N (z2g 16223) zrn σ (z00 (some z2d) K)) (z00 (some z2d) K)) ..) (fx8 fun f g l a b c d e=>f126t32 N u0 f g l a b c d e K) (by kernel_rfl)
def zro:z0p:=.mk none none .n y3s
theorem f126t28 N u0 f h g a b c d e (K:KT ρ):z2i N (z2g 3935) zro (zpf u0 f h g a b c d e) (z00 (some z2d) K) =
  spec_dTree.Z28 N f h g a b c d e (fun f a b c d e=>K .nrm (z6w u0 f a b c d e)) (fun i j d e a b c=>K .ret (z39 u0 i j d e a b c)) :=
 zg7 (x:=.tmp 110) (t:=g) (by kernel_rfl) (f126t29 N u0 (K:=K) ..) (f126t30 N u0 (K:=K) ..) (by kernel_rfl)
def y3t:z0p:=.mk (some f126l9) none .n zro
theorem f126t26 N u0 h f g i a b c d e (K:KT ρ):z2i N (z2g 1887) y3t (zkh u0 h f g i a b c d e) (z00 (some z2d) K) =
  spec_dTree.Z26 N h f g i a b c d e (fun f a b c d e=>K .nrm (z6w u0 f a b c d e)) (fun j l d e a b c=>K .ret (z39 u0 j l d e a b c)) :=
 z05 (fun k=>spec_dTree.Z27 N h f g i a b c d e k) (by kernel_rfl) (f126t27 N u0 (K:=z16 (fun σ=>z2i N (z2g 3935) zro σ (z00 (some z2d) K)) (z00 (some z2d) K)) ..) (fx8 fun f g m a b c d e=>f126t28 N u0 f g m a b c d e K) (by kernel_rfl)
def zrr:z0p:=.mk none none y3x y3t
theorem f126t16 N u0 h f i g a b c d e (K:KT ρ):z2i N (z2g 863) zrr (zkh u0 h f i g a b c d e) (z00 (some z2d) K) =
  spec_dTree.Z16 N h f i g a b c d e (fun f a b c d e=>K .nrm (z6w u0 f a b c d e)) (fun j l d e a b c=>K .ret (z39 u0 j l d e a b c)) :=
 zg7 (x:=.tmp 65) (t:=g) (by kernel_rfl) (f126t17 N u0 (K:=K) ..) (f126t26 N u0 (K:=K) ..) (by kernel_rfl)
def y3y:z0p:=.mk (some f126l6) none .n zrr
theorem f126t14 N u0 g f h a b c d e (K:KT ρ):z2i N (z2g 351) y3y (zu4 u0 g f h a b c d e) (z00 (some z2d) K) =
  spec_dTree.Z14 N g f h a b c d e (fun f a b c d e=>K .nrm (z6w u0 f a b c d e)) (fun i j d e a b c=>K .ret (z39 u0 i j d e a b c)) :=
 z05 (fun k=>spec_dTree.Z15 N g f h a b c d e k) (by kernel_rfl) (f126t15 N u0 (K:=z16 (fun σ=>z2i N (z2g 863) zrr σ (z00 (some z2d) K)) (z00 (some z2d) K)) ..) (fx9 fun g f h l a b c d e=>f126t16 N u0 g f h l a b c d e K) (by kernel_rfl)
def zrs:z0p:=.mk (some z2d) none y3y .n
theorem f126t13 N u0 g f h a b c d e (K:KT ρ):z2i N (z2g 223) zrs (zu4 u0 g f h a b c d e) (z00 (some z2d) K) =
  spec_dTree.Z13 N g f h a b c d e (fun f a b c d e=>K .nrm (z6w u0 f a b c d e)) (fun i j d e a b c=>K .ret (z39 u0 i j d e a b c)) :=
 z0n (by kernel_rfl) (f126t14 N u0 (K:=z1j 0 (z00 (some z2d) K)) ..) (by kernel_rfl)
def y3z:z0p:=.mk (some f126l5) none .n zrs
theorem f126t11 N u0 g f a b c d e (K:KT ρ):z2i N (z2g 95) y3z (zu5 u0 g f a b c d e) (z00 (some z2d) K) =
  spec_dTree.Z11 N g f a b c d e (fun f a b c d e=>K .nrm (z6w u0 f a b c d e)) (fun h i d e a b c=>K .ret (z39 u0 h i d e a b c)) :=
 z05 (fun k=>spec_dTree.Z12 N g f a b c d e k) (by kernel_rfl) (f126t12 N u0 (K:=z16 (fun σ=>z2i N (z2g 223) zrs σ (z00 (some z2d) K)) (z00 (some z2d) K)) ..) (fx8 fun g f j a b c d e=>f126t13 N u0 g f j a b c d e K) (by kernel_rfl)
theorem f126t48 N u0 a b c d e f (K:KT ρ):z2i N (z2g 191) .n (z6w u0 a b c d e f) (z00 (some y41) K) =
 spec_dTree.Z48 N a b c d e f (fun g a b c d e f h i=>K .nrm (zm8 u0 g a b c d e f h i)):=by kernel_rfl
theorem f126t51 N u0 a b c d e f g h i (K:KT ρ):z2i N (z2g 639) .n (zm8 u0 a b c d e f g h i) (z00 (some zhs) K) =
 spec_dTree.Z51 N a b c d e f g h i (fun a b j c d e f g h i=>K .nrm (zeq u0 a b j c d e f g h i)):=by kernel_rfl
theorem f126t54 N u0 a b j c d e f g h i (K:KT ρ):z2i N (z2g 2431) .n (zeq u0 a b j c d e f g h i) (z00 (some zhs) K) =
 spec_dTree.Z54 N a b j c d e f g h i (fun a b j c d e f g h i=>K .nrm (zeq u0 a b j c d e f g h i)) (fun a b f g h i c d e=>K (.exit 5) (zcq u0 a b f g h i c d e)):=by kernel_rfl
def y3l:z0p:=.mk none (some zhs) .n .n
abbrev y3d {ρ:Type} (N M:Nat) (σ:St) (K:KT ρ):Option ρ:=z2r (fun σ K=>z2i N (z2g 2431) .n σ K) zhs M σ K
theorem zu1 {ρ:Type} (N:Nat) (u0:Value) (K:KT ρ):∀ (M:Nat) (a:LI) (b j:Int) (c:List Int) (d e f g h i:Int),y3d N M (zeq u0 a b j c d e f g h i) K =
 spec_dTree.Z53L N (fun a b f g h i c d e=>K (.exit 5) (zcq u0 a b f g h i c d e)) M a b j c d e f g h i
 | 0,_,_,_,_,_,_,_,_,_,_=>rfl
 | M + 1,a,b,j,c,d,e,f,g,h,i=>z12 (fun k=>spec_dTree.Z54 N a b j c d e f g h i k (fun a b f g h i c d e=>K (.exit 5) (zcq u0 a b f g h i c d e))) (f126t54 N u0 (K:=z16 (fun σ=>y3d N M σ K) K) ..) (zb5 fun a b j c d e f g h i=>zu1 N u0 K M a b j c d e f g h i) (by kernel_rfl)
theorem f126t53 N u0 a b j c d e f g h i (K:KT ρ):z2i N (z2g 1407) y3l (zeq u0 a b j c d e f g h i) (z00 (some z8i) K) =
  spec_dTree.Z53 N a b j c d e f g h i (fun a b f g h i c d e=>K (.exit 5) (zcq u0 a b f g h i c d e)) :=
 z1d (by kernel_rfl) (zu1 N u0 (z00 (some z8i) K) N a b j c d e f g h i) (by kernel_rfl)
def zrh:z0p:=.mk (some z8i) none y3l .n
theorem f126t52 N u0 a b j c d e f g h i (K:KT ρ):z2i N (z2g 895) zrh (zeq u0 a b j c d e f g h i) (z00 (some z8i) K) =
  spec_dTree.Z52 N a b j c d e f g h i (fun a b f g h i c d e=>K .nrm (zcq u0 a b f g h i c d e)) :=
 z0n (by kernel_rfl) (f126t53 N u0 (K:=z1j 5 (z00 (some z8i) K)) ..) (by kernel_rfl)
def y3m:z0p:=.mk (some zhs) none .n zrh
theorem f126t50 N u0 a b c d e f g h i (K:KT ρ):z2i N (z2g 383) y3m (zm8 u0 a b c d e f g h i) (z00 (some z8i) K) =
  spec_dTree.Z50 N a b c d e f g h i (fun a b f g h i c d e=>K .nrm (zcq u0 a b f g h i c d e)) :=
 z05 (fun k=>spec_dTree.Z51 N a b c d e f g h i k) (by kernel_rfl) (f126t51 N u0 (K:=z16 (fun σ=>z2i N (z2g 895) zrh σ (z00 (some z8i) K)) (z00 (some z8i) K)) ..) (zb5 fun a b j c d e f g h i=>f126t52 N u0 a b j c d e f g h i K) (by kernel_rfl)
theorem f126t55 N u0 f g a b h i c d e (K:KT ρ):z2i N (z2g 511) .n (zcq u0 f g a b h i c d e) (z00 (some z4c) K) =
 spec_dTree.Z55 N f g a b h i c d e (fun j l a b c d e=>K .ret (z39 u0 j l a b c d e)):=by kernel_rfl
def zri:z0p:=.mk (some z8i) none y3m .n
theorem f126t49 N u0 f g a b c d e h i (K:KT ρ):z2i N (z2g 255) zri (zm8 u0 f g a b c d e h i) (z00 (some z4c) K) =
  spec_dTree.Z49 N f g a b c d e h i (fun j l d e a b c=>K .ret (z39 u0 j l d e a b c)) :=
 z05 (fun k=>spec_dTree.Z50 N f g a b c d e h i k) (by kernel_rfl) (f126t50 N u0 (K:=z16 (fun σ=>z2i N (z2g 511) .n σ (z00 (some z4c) K)) (z00 (some z4c) K)) ..) (fx9 fun f g d e h i a b c=>f126t55 N u0 f g d e h i a b c K) (by kernel_rfl)
def zrj:z0p:=.mk (some y41) none .n zri
theorem f126t47 N u0 f a b c d e (K:KT ρ):z2i N (z2g 127) zrj (z6w u0 f a b c d e) (z00 (some z4c) K) =
  spec_dTree.Z47 N f a b c d e (fun g h d e a b c=>K .ret (z39 u0 g h d e a b c)) :=
 z05 (fun k=>spec_dTree.Z48 N f a b c d e k) (by kernel_rfl) (f126t48 N u0 (K:=z16 (fun σ=>z2i N (z2g 255) zri σ (z00 (some z4c) K)) (z00 (some z4c) K)) ..) (fx9 fun i f a b c d e j l=>f126t49 N u0 i f a b c d e j l K) (by kernel_rfl)
def zrt:z0p:=.mk (some z2d) none y3z zrj
theorem f126t10 N u0 g f a b c d e (K:KT ρ):z2i N (z2g 63) zrt (zu5 u0 g f a b c d e) (z00 (some z4c) K) =
  spec_dTree.Z10 N g f a b c d e (fun h i d e a b c=>K .ret (z39 u0 h i d e a b c)) :=
 z05 (fun k=>spec_dTree.Z11 N g f a b c d e k (fun h i d e a b c=>K .ret (z39 u0 h i d e a b c))) (by kernel_rfl) (f126t11 N u0 (K:=z16 (fun σ=>z2i N (z2g 127) zrj σ (z00 (some z4c) K)) (z00 (some z4c) K)) ..) (fx6 fun f a b c d e=>f126t47 N u0 f a b c d e K) (by kernel_rfl)
def y3j:z0p:=.mk (some f126l4) none .n zrt
theorem f126t8 N u0 h f g a b c d e (K:KT ρ):z2i N (z2g 31) y3j (zki u0 h f g a b c d e) (z00 (some z4c) K) =
  spec_dTree.Z8 N h f g a b c d e (fun i j d e a b c=>K .ret (z39 u0 i j d e a b c)) :=
 z05 (fun k=>spec_dTree.Z9 N h f g a b c d e k) (by kernel_rfl) (f126t9 N u0 (K:=z16 (fun σ=>z2i N (z2g 63) zrt σ (z00 (some z4c) K)) (z00 (some z4c) K)) ..) (fx7 fun f g a b c d e=>f126t10 N u0 f g a b c d e K) (by kernel_rfl)
def y3k:z0p:=.mk (some zu7) none .n y3j
theorem f126t6 N u0 f g h a b c d e (K:KT ρ):z2i N (z2g 15) y3k (zki u0 f g h a b c d e) (z00 (some z4c) K) =
  spec_dTree.Z6 N f g h a b c d e (fun i j d e a b c=>K .ret (z39 u0 i j d e a b c)) :=
 z05 (fun k=>spec_dTree.Z7 N f g h a b c d e k) (by kernel_rfl) (f126t7 N u0 (K:=z16 (fun σ=>z2i N (z2g 31) y3j σ (z00 (some z4c) K)) (z00 (some z4c) K)) ..) (fx8 fun f g h a b c d e=>f126t8 N u0 f g h a b c d e K) (by kernel_rfl)
def y3p:z0p:=.mk (some zu7) none .n y3k
theorem f126t4 N u0 f g a b c d e (K:KT ρ):z2i N (z2g 7) y3p (y3g u0 f g a b c d e) (z00 (some z4c) K) =
  spec_dTree.Z4 N f g a b c d e (fun h i d e a b c=>K .ret (z39 u0 h i d e a b c)) :=
 z05 (fun k=>spec_dTree.Z5 N f g a b c d e k) (by kernel_rfl) (f126t5 N u0 (K:=z16 (fun σ=>z2i N (z2g 15) y3k σ (z00 (some z4c) K)) (z00 (some z4c) K)) ..) (fx8 fun f g j a b c d e=>f126t6 N u0 f g j a b c d e K) (by kernel_rfl)
def y3w:z0p:=.mk (some f126l2) none .n y3p
theorem f126t2 N u0 f a b c d e (K:KT ρ):z2i N (z2g 3) y3w (y3h u0 f a b c d e) (z00 (some z4c) K) =
  spec_dTree.Z2 N f a b c d e (fun g h d e a b c=>K .ret (z39 u0 g h d e a b c)) :=
 z05 (fun k=>spec_dTree.Z3 N f a b c d e k) (by kernel_rfl) (f126t3 N u0 (K:=z16 (fun σ=>z2i N (z2g 7) y3p σ (z00 (some z4c) K)) (z00 (some z4c) K)) ..) (fx7 fun f i a b c d e=>f126t4 N u0 f i a b c d e K) (by kernel_rfl)
def y40:z0p:=.mk (some f126l1) none .n y3w
theorem f126t0 N u0 b0 r0 a (K:KT ρ):z2i N (z2g 1) y40 (y3i u0 b0 r0 a) (z00 (some z4c) K) =
  spec_dTree.Z0 N b0 r0 a (fun g h b c d e f=>K .ret (z39 u0 g h b c d e f)) :=
 z05 (fun k=>spec_dTree.Z1 N b0 r0 a k) (by kernel_rfl) (f126t1 N u0 (K:=z16 (fun σ=>z2i N (z2g 3) y3w σ (z00 (some z4c) K)) (z00 (some z4c) K)) ..) (fx6 fun a d e f b c=>f126t2 N u0 a d e f b c K) (by kernel_rfl)
theorem f126m (N:Nat) (u0:Value) (b0:List Int) (r0:Int × Int) (a:Int):z2i N (z2g 1) y40 (y3i u0 b0 r0 a) (z00 (some z4c) (z7q tab y45 zpg true zu6 Try.f126.results.toList)) = spec_dTree.Z0 N b0 r0 a (fun b c d e h f g=>some ([u0],((f,g),((),((d,(e,b)),(c,())))))) :=
 (f126t0 N u0 b0 r0 a (z7q tab y45 zpg true zu6 Try.f126.results.toList)).trans (by kernel_rfl)
theorem f126ok (h:spec_dTree.Spec):z2u Try.prog 126 e126 :=
 z30 (k:=y45) (ps:=zpg) (rs:=zu6) (back:=true) (c:=(z2g 1)) (pl:=y40) (je:=(some z4c)) (B:=f126B) Try.func126 (by kernel_rfl) (by kernel_rfl) (by kernel_rfl) z34 f126GOk (by kernel_rfl) (by kernel_rfl) (by kernel_rfl) fun lit X hl hb1 hb2 hp=>by
  obtain ⟨⟨⟨b0,_⟩,r0⟩,a,_⟩:=X
  match lit,hl with
  | [u0],_ =>
   obtain ⟨N,h⟩:=h [u0] b0 r0 a hb1.1 hp
   exact ⟨N,(f126m N u0 b0 r0 a).trans (h N (Nat.le_refl N))⟩
theorem e126ok:z2u Try.prog 126 e126:=f126ok spec_dTree.ok
end Go.Fw
namespace Go.Fw
variable {ρ:Type}
open Go.Proofs
def zop:Sig:=⟨[⟨.int .i64,false,false⟩,⟨.int .i64,false,false⟩,⟨.int .i64,false,false⟩],[⟨.bool,false,false⟩]⟩
def e72:z2v:=⟨zop,none,fun X=>((),((z3t.g X.1 X.2.1 X.2.2.1),()))⟩
def f72G:Gm:=z24
theorem f72GOk:GOk Try.prog f72G:=GOk.nil
def f72lE:z09:=⟨[],[],[],[],[]⟩
def f72s0 (a b c:Int):St:=z2j zop.ps (a,(b,(c,())))
def f72s1 (a:Bool):St:=z1k [(6,xB a)] [] []
def f72l1:z09:=⟨[6],[],[],[],[]⟩
def f72B:Nat→Option z09:=z1n [(1000000,f72l1)]
abbrev f72i {ρ:Type} (N:Nat) (c:Code) (p:z0p) (σ:St) (K:KT ρ):Option ρ:=z1t f72G tab f72B N c p σ K
def f72c (n:Nat):Code:=z2x 99 (z25 Try.f72) n
theorem f72t0 N a b c (K:KT ρ):f72i N (f72c 1) .n (f72s0 a b c) (z00 (some f72lE) K) =
 z3t.Z0 N a b c (fun d=>K .ret (f72s1 d)):=by kernel_rfl
theorem f72m (N:Nat) (a b c:Int):f72i N (f72c 1) .n (f72s0 a b c) (z00 (some f72lE) (z3o tab zop Try.f72.results.toList)) = z3t.Z0 N a b c (fun d=>some ((),(d,()))) :=
 (f72t0 N a b c (z3o tab zop Try.f72.results.toList)).trans (by kernel_rfl)
theorem f72ok (h:z3t.Spec):z0r Try.prog 72 e72 :=
 z0k (sig:=zop) (c:=(f72c 1)) (pl:=.n) (je:=(some f72lE)) (B:=f72B) Try.func72 (by kernel_rfl) (by kernel_rfl) (by kernel_rfl) z34 f72GOk (by kernel_rfl) (by kernel_rfl) (by kernel_rfl) (by kernel_rfl) fun X hb hp=>by
  obtain ⟨a,b,d,_⟩:=X
  obtain ⟨N,h⟩:=h a b d
  exact ⟨N,(f72m N a b d).trans (h N (Nat.le_refl N))⟩
theorem e72ok:z0r Try.prog 72 e72:=f72ok z3t.ok
end Go.Fw
namespace Go.Fw
variable {ρ:Type}
open Go.Proofs
def zog:Sig:=⟨[⟨.pair (.int .i64) (.pair (.int .i64) (.sl 3 (.int .i64))),true,false⟩,⟨.int .i64,false,false⟩,⟨.int .i64,false,false⟩],[⟨.int .i64,false,false⟩]⟩
def e80:z2v:=⟨zog,(some fun X=>z11.P X.1 X.2.1 X.2.2.1),fun X=>((),((z11.g X.1 X.2.1 X.2.2.1),()))⟩
def f80G:Gm:=z24
theorem f80GOk:GOk Try.prog f80G:=GOk.nil
def f80lE:z09:=⟨[],[],[],[],[]⟩
def f80s0 (a:MT) (b c:Int):St:=z2j zog.ps (a,(b,(c,())))
def f80s1 (a:Int):St:=z1k [(6,xi a)] [] []
def f80l1:z09:=⟨[6],[],[],[],[]⟩
def f80B:Nat→Option z09:=z1n [(1000000,f80l1)]
abbrev f80i {ρ:Type} (N:Nat) (c:Code) (p:z0p) (σ:St) (K:KT ρ):Option ρ:=z1t f80G tab f80B N c p σ K
def f80c (n:Nat):Code:=z2x 99 (z25 Try.f80) n
theorem f80t0 N a b c (K:KT ρ):f80i N (f80c 1) .n (f80s0 a b c) (z00 (some f80lE) K) =
 z11.Z0 N a b c (fun d=>K .ret (f80s1 d)):=by kernel_rfl
theorem f80m (N:Nat) (a:MT) (b c:Int):f80i N (f80c 1) .n (f80s0 a b c) (z00 (some f80lE) (z3o tab zog Try.f80.results.toList)) = z11.Z0 N a b c (fun d=>some ((),(d,()))) :=
 (f80t0 N a b c (z3o tab zog Try.f80.results.toList)).trans (by kernel_rfl)
theorem f80ok (h:z11.Spec):z0r Try.prog 80 e80 :=
 z0k (sig:=zog) (c:=(f80c 1)) (pl:=.n) (je:=(some f80lE)) (B:=f80B) Try.func80 (by kernel_rfl) (by kernel_rfl) (by kernel_rfl) z34 f80GOk (by kernel_rfl) (by kernel_rfl) (by kernel_rfl) (by kernel_rfl) fun X hb hp=>by
  obtain ⟨a,b,d,_⟩:=X
  obtain ⟨N,h⟩:=h a b d hb.1 hp
  exact ⟨N,(f80m N a b d).trans (h N (Nat.le_refl N))⟩
theorem y69:z0r Try.prog 80 e80:=f80ok z11.ok
end Go.Fw
namespace Go.Fw
variable {ρ:Type}
open Go.Proofs
def zon:Sig:=⟨[⟨.pair (.int .i64) (.pair (.int .i64) (.sl 3 (.int .i64))),true,false⟩],[⟨.bool,false,false⟩]⟩
def e74:z2v:=⟨zon,none,fun X=>((),((z0l.g X.1),()))⟩
def f74G:Gm:=z4p (z4p z24 72 e72) 80 e80
theorem f74GOk:GOk Try.prog f74G:=((GOk.nil).add e72ok (by kernel_rfl)).add y69 (by kernel_rfl)
def zcj:z09:=⟨[],[],[],[],[]⟩
def f74s0 (a:MT):St:=z2j zon.ps (a,())
def zb6 (a b:Int) (c:LI):St:=z1k [(1,xb 1)] [(1,(30,[yi a,yi b,.sn 3 tI c none]))] []
def zdr:z09:=⟨[1],[1],[],[],[]⟩
def zw5 (a b c:Int) (d:LI):St:=z1k [(1,xb 1),(3,xi a)] [(1,(30,[yi b,yi c,.sn 3 tI d none]))] []
def y0t:z09:=⟨[1,3],[1],[],[],[]⟩
def z81 (a b c:Int) (d:LI):St:=z1k [(1,xb 1),(4,xi a)] [(1,(30,[yi b,yi c,.sn 3 tI d none]))] []
def z6t:z09:=⟨[1,4],[1],[],[],[]⟩
def zw4 (a b c d:Int) (e:LI):St:=z1k [(1,xb 1),(4,xi a),(5,xi b)] [(1,(30,[yi c,yi d,.sn 3 tI e none]))] []
def y0s:z09:=⟨[1,4,5],[1],[],[],[]⟩
def zm1 :St:=z1k [] [] []
def zj5:z09:=⟨[],[],[],[],[]⟩
def z66 (a:Bool):St:=z1k [(2,xB a)] [] []
def f74l6:z09:=⟨[2],[],[],[],[]⟩
def f74B:Nat→Option z09:=z1n [(0,zdr),(4,z6t),(3,z6t),(2,zj5),(1000000,f74l6)]
abbrev z9a {ρ:Type} (N:Nat) (c:Code) (p:z0p) (σ:St) (K:KT ρ):Option ρ:=z1t f74G tab f74B N c p σ K
def z8t (n:Nat):Code:=z2x 99 (z25 Try.f74) n
theorem f74t1 N a (K:KT ρ):z9a N (z8t 2) .n (f74s0 a) (z00 (some zdr) K) =
 z0l.Z1 N a (fun b c d=>K .nrm (zb6 b c d)):=by kernel_rfl
theorem f74t3 N a b c (K:KT ρ):z9a N (z8t 5) .n (zb6 a b c) (z00 (some zdr) K) =
 z0l.Z3 N a b c (fun a b c=>K .nrm (zb6 a b c)) (fun d=>K .ret (z66 d)):=by kernel_rfl
theorem f74t6 N a b c (K:KT ρ):z9a N (z8t 19) .n (zb6 a b c) (z00 (some y0t) K) =
 z0l.Z6 N a b c (fun d a b c=>K .nrm (zw5 d a b c)):=by kernel_rfl
theorem f74t9 N d a b c (K:KT ρ):z9a N (z8t 75) .n (zw5 d a b c) (z00 (some y0t) K) =
 z0l.Z9 N d a b c (fun d a b c=>K .nrm (zw5 d a b c)) (fun a b c=>K (.exit 0) (zb6 a b c)) (fun e=>K .ret (z66 e)):=by kernel_rfl
def f74p8:z0p:=.mk none (some y0t) .n .n
abbrev f74w8 {ρ:Type} (N M:Nat) (σ:St) (K:KT ρ):Option ρ:=z2r (fun σ K=>z9a N (z8t 75) .n σ K) y0t M σ K
theorem f74t8L {ρ:Type} (N:Nat) (K:KT ρ):∀ (M:Nat) (d a b:Int) (c:LI),f74w8 N M (zw5 d a b c) K =
 z0l.Z8L N (fun a b c=>K (.exit 0) (zb6 a b c)) (fun e=>K .ret (z66 e)) M d a b c
 | 0,_,_,_,_=>rfl
 | M + 1,d,a,b,c=>z12 (fun k=>z0l.Z9 N d a b c k (fun a b c=>K (.exit 0) (zb6 a b c)) (fun e=>K .ret (z66 e))) (f74t9 N (K:=z16 (fun σ=>f74w8 N M σ K) K) ..) (fx4 fun d a b c=>f74t8L N K M d a b c) (by kernel_rfl)
theorem f74t8 N d a b c (K:KT ρ):z9a N (z8t 43) f74p8 (zw5 d a b c) (z00 (some zdr) K) =
  z0l.Z8 N d a b c (fun a b c=>K (.exit 0) (zb6 a b c)) (fun e=>K .ret (z66 e)) :=
 z1d (by kernel_rfl) (f74t8L N (z00 (some zdr) K) N d a b c) (by kernel_rfl)
def f74p7:z0p:=.mk (some zdr) none f74p8 .n
theorem f74t7 N d a b c (K:KT ρ):z9a N (z8t 27) f74p7 (zw5 d a b c) (z00 (some zdr) K) =
  z0l.Z7 N d a b c (fun a b c=>K .nrm (zb6 a b c)) (fun e=>K .ret (z66 e)) :=
 z0n (by kernel_rfl) (f74t8 N (K:=z1j 0 (z00 (some zdr) K)) ..) (by kernel_rfl)
def f74p5:z0p:=.mk (some y0t) none .n f74p7
theorem f74t5 N a b c (K:KT ρ):z9a N (z8t 11) f74p5 (zb6 a b c) (z00 (some zdr) K) =
  z0l.Z5 N a b c (fun a b c=>K .nrm (zb6 a b c)) (fun d=>K .ret (z66 d)) :=
 z05 (fun k=>z0l.Z6 N a b c k) (by kernel_rfl) (f74t6 N (K:=z16 (fun σ=>z9a N (z8t 27) f74p7 σ (z00 (some zdr) K)) (z00 (some zdr) K)) ..) (fx4 fun e a b c=>f74t7 N e a b c K) (by kernel_rfl)
theorem f74t12 N a b c (K:KT ρ):z9a N (z8t 39) .n (zb6 a b c) (z00 (some z6t) K) =
 z0l.Z12 N a b c (fun d a b c=>K .nrm (z81 d a b c)):=by kernel_rfl
theorem f74t16 N a b c d (K:KT ρ):z9a N (z8t 279) .n (z81 a b c d) (z00 (some z6t) K) =
 z0l.Z16 N a b c d (fun a b c d=>K .nrm (z81 a b c d)) (K (.exit 2) zm1):=by kernel_rfl
theorem f74t20 N a b c d (K:KT ρ):z9a N (z8t 2199) .n (z81 a b c d) (z00 (some y0s) K) =
 z0l.Z20 N a b c d (fun a e b c d=>K .nrm (zw4 a e b c d)):=by kernel_rfl
theorem f74t23 N a e b c d (K:KT ρ):z9a N (z8t 9367) .n (zw4 a e b c d) (z00 (some y0s) K) =
 z0l.Z23 N a e b c d (fun a e b c d=>K .nrm (zw4 a e b c d)) (fun a b c d=>K (.exit 4) (z81 a b c d)) (fun f=>K .ret (z66 f)):=by kernel_rfl
def f74p22:z0p:=.mk none (some y0s) .n .n
abbrev f74w22 {ρ:Type} (N M:Nat) (σ:St) (K:KT ρ):Option ρ:=z2r (fun σ K=>z9a N (z8t 9367) .n σ K) y0s M σ K
theorem y0l {ρ:Type} (N:Nat) (K:KT ρ):∀ (M:Nat) (a e b c:Int) (d:LI),f74w22 N M (zw4 a e b c d) K =
 z0l.Z22L N (fun a b c d=>K (.exit 4) (z81 a b c d)) (fun f=>K .ret (z66 f)) M a e b c d
 | 0,_,_,_,_,_=>rfl
 | M + 1,a,e,b,c,d=>z12 (fun k=>z0l.Z23 N a e b c d k (fun a b c d=>K (.exit 4) (z81 a b c d)) (fun f=>K .ret (z66 f))) (f74t23 N (K:=z16 (fun σ=>f74w22 N M σ K) K) ..) (fx5 fun a e b c d=>y0l N K M a e b c d) (by kernel_rfl)
theorem f74t22 N a e b c d (K:KT ρ):z9a N (z8t 5271) f74p22 (zw4 a e b c d) (z00 (some z6t) K) =
  z0l.Z22 N a e b c d (fun a b c d=>K (.exit 4) (z81 a b c d)) (fun f=>K .ret (z66 f)) :=
 z1d (by kernel_rfl) (y0l N (z00 (some z6t) K) N a e b c d) (by kernel_rfl)
def y0n:z0p:=.mk (some z6t) none f74p22 .n
theorem f74t21 N a e b c d (K:KT ρ):z9a N (z8t 3223) y0n (zw4 a e b c d) (z00 (some z6t) K) =
  z0l.Z21 N a e b c d (fun a b c d=>K .nrm (z81 a b c d)) (fun f=>K .ret (z66 f)) :=
 z0n (by kernel_rfl) (f74t22 N (K:=z1j 4 (z00 (some z6t) K)) ..) (by kernel_rfl)
def f74p19:z0p:=.mk (some y0s) none .n y0n
theorem f74t19 N a b c d (K:KT ρ):z9a N (z8t 1175) f74p19 (z81 a b c d) (z00 (some z6t) K) =
  z0l.Z19 N a b c d (fun a b c d=>K .nrm (z81 a b c d)) (fun e=>K .ret (z66 e)) :=
 z05 (fun k=>z0l.Z20 N a b c d k) (by kernel_rfl) (f74t20 N (K:=z16 (fun σ=>z9a N (z8t 3223) y0n σ (z00 (some z6t) K)) (z00 (some z6t) K)) ..) (fx5 fun a f b c d=>f74t21 N a f b c d K) (by kernel_rfl)
def f74p18:z0p:=.mk (some z6t) none f74p19 .n
theorem f74t18 N a b c d (K:KT ρ):z9a N (z8t 663) f74p18 (z81 a b c d) (z00 (some z6t) K) =
  z0l.Z18 N a b c d (fun a b c d=>K .nrm (z81 a b c d)) (fun e=>K .ret (z66 e)) :=
 z0n (by kernel_rfl) (f74t19 N (K:=z1j 3 (z00 (some z6t) K)) ..) (by kernel_rfl)
theorem f74t24 N a b c d (K:KT ρ):z9a N (z8t 919) .n (z81 a b c d) (z00 (some z6t) K) =
 z0l.Z24 N a b c d (fun a b c d=>K .nrm (z81 a b c d)):=by kernel_rfl
def y0o:z0p:=.mk (some z6t) none f74p18 .n
theorem f74t17 N a b c d (K:KT ρ):z9a N (z8t 407) y0o (z81 a b c d) (z00 (some z6t) K) =
  z0l.Z17 N a b c d (fun a b c d=>K .nrm (z81 a b c d)) (fun e=>K .ret (z66 e)) :=
 z05 (fun k=>z0l.Z18 N a b c d k (fun e=>K .ret (z66 e))) (by kernel_rfl) (f74t18 N (K:=z16 (fun σ=>z9a N (z8t 919) .n σ (z00 (some z6t) K)) (z00 (some z6t) K)) ..) (fx4 fun a b c d=>f74t24 N a b c d K) (by kernel_rfl)
def y0p:z0p:=.mk (some z6t) none .n y0o
theorem f74t15 N a b c d (K:KT ρ):z9a N (z8t 151) y0p (z81 a b c d) (z00 (some z6t) K) =
  z0l.Z15 N a b c d (fun a b c d=>K .nrm (z81 a b c d)) (K (.exit 2) zm1) (fun e=>K .ret (z66 e)) :=
 z05 (fun k=>z0l.Z16 N a b c d k (K (.exit 2) zm1)) (by kernel_rfl) (f74t16 N (K:=z16 (fun σ=>z9a N (z8t 407) y0o σ (z00 (some z6t) K)) (z00 (some z6t) K)) ..) (fx4 fun a b c d=>f74t17 N a b c d K) (by kernel_rfl)
def f74p14:z0p:=.mk none (some z6t) y0p .n
abbrev f74w14 {ρ:Type} (N M:Nat) (σ:St) (K:KT ρ):Option ρ:=z2r (fun σ K=>z9a N (z8t 151) y0p σ K) z6t M σ K
theorem y0m {ρ:Type} (N:Nat) (K:KT ρ):∀ (M:Nat) (a b c:Int) (d:LI),f74w14 N M (z81 a b c d) K =
 z0l.Z14L N (K (.exit 2) zm1) (fun e=>K .ret (z66 e)) M a b c d
 | 0,_,_,_,_=>rfl
 | M + 1,a,b,c,d=>z12 (fun k=>z0l.Z15 N a b c d k (K (.exit 2) zm1) (fun e=>K .ret (z66 e))) (f74t15 N (K:=z16 (fun σ=>f74w14 N M σ K) K) ..) (fx4 fun a b c d=>y0m N K M a b c d) (by kernel_rfl)
theorem f74t14 N a b c d (K:KT ρ):z9a N (z8t 87) f74p14 (z81 a b c d) (z00 (some zj5) K) =
  z0l.Z14 N a b c d (K (.exit 2) zm1) (fun e=>K .ret (z66 e)) :=
 z1d (by kernel_rfl) (y0m N (z00 (some zj5) K) N a b c d) (by kernel_rfl)
def y0q:z0p:=.mk (some zj5) none f74p14 .n
theorem f74t13 N a b c d (K:KT ρ):z9a N (z8t 55) y0q (z81 a b c d) (z00 (some zj5) K) =
  z0l.Z13 N a b c d (K .nrm zm1) (fun e=>K .ret (z66 e)) :=
 z0n (by kernel_rfl) (f74t14 N (K:=z1j 2 (z00 (some zj5) K)) ..) (by kernel_rfl)
def f74p11:z0p:=.mk (some z6t) none .n y0q
theorem f74t11 N a b c (K:KT ρ):z9a N (z8t 23) f74p11 (zb6 a b c) (z00 (some zj5) K) =
  z0l.Z11 N a b c (K .nrm zm1) (fun d=>K .ret (z66 d)) :=
 z05 (fun k=>z0l.Z12 N a b c k) (by kernel_rfl) (f74t12 N (K:=z16 (fun σ=>z9a N (z8t 55) y0q σ (z00 (some zj5) K)) (z00 (some zj5) K)) ..) (fx4 fun e a b c=>f74t13 N e a b c K) (by kernel_rfl)
theorem f74t25 N  (K:KT ρ):z9a N (z8t 31) .n zm1 (z00 (some zcj) K) =
 z0l.Z25 N (fun a=>K .ret (z66 a)):=by kernel_rfl
def y0r:z0p:=.mk (some zj5) none f74p11 .n
theorem f74t10 N a b c (K:KT ρ):z9a N (z8t 15) y0r (zb6 a b c) (z00 (some zcj) K) =
  z0l.Z10 N a b c (fun d=>K .ret (z66 d)) :=
 z05 (fun k=>z0l.Z11 N a b c k (fun d=>K .ret (z66 d))) (by kernel_rfl) (f74t11 N (K:=z16 (fun σ=>z9a N (z8t 31) .n σ (z00 (some zcj) K)) (z00 (some zcj) K)) ..) (f74t25 N K) (by kernel_rfl)
def f74p4:z0p:=.mk (some zdr) none f74p5 y0r
theorem f74t4 N a b c (K:KT ρ):z9a N (z8t 7) f74p4 (zb6 a b c) (z00 (some zcj) K) =
  z0l.Z4 N a b c (fun d=>K .ret (z66 d)) :=
 z05 (fun k=>z0l.Z5 N a b c k (fun d=>K .ret (z66 d))) (by kernel_rfl) (f74t5 N (K:=z16 (fun σ=>z9a N (z8t 15) y0r σ (z00 (some zcj) K)) (z00 (some zcj) K)) ..) (fx3 fun a b c=>f74t10 N a b c K) (by kernel_rfl)
def f74p2:z0p:=.mk (some zdr) none .n f74p4
theorem f74t2 N a b c (K:KT ρ):z9a N (z8t 3) f74p2 (zb6 a b c) (z00 (some zcj) K) =
  z0l.Z2 N a b c (fun d=>K .ret (z66 d)) :=
 z05 (fun k=>z0l.Z3 N a b c k (fun d=>K .ret (z66 d))) (by kernel_rfl) (f74t3 N (K:=z16 (fun σ=>z9a N (z8t 7) f74p4 σ (z00 (some zcj) K)) (z00 (some zcj) K)) ..) (fx3 fun a b c=>f74t4 N a b c K) (by kernel_rfl)
def f74p0:z0p:=.mk (some zdr) none .n f74p2
theorem f74t0 N a (K:KT ρ):z9a N (z8t 1) f74p0 (f74s0 a) (z00 (some zcj) K) =
  z0l.Z0 N a (fun b=>K .ret (z66 b)) :=
 z05 (fun k=>z0l.Z1 N a k) (by kernel_rfl) (f74t1 N (K:=z16 (fun σ=>z9a N (z8t 3) f74p2 σ (z00 (some zcj) K)) (z00 (some zcj) K)) ..) (fx3 fun c d e=>f74t2 N c d e K) (by kernel_rfl)
theorem f74m (N:Nat) (a:MT):z9a N (z8t 1) f74p0 (f74s0 a) (z00 (some zcj) (z3o tab zon Try.f74.results.toList)) = z0l.Z0 N a (fun b=>some ((),(b,()))) :=
 (f74t0 N a (z3o tab zon Try.f74.results.toList)).trans (by kernel_rfl)
theorem f74ok (h:z0l.Spec):z0r Try.prog 74 e74 :=
 z0k (sig:=zon) (c:=(z8t 1)) (pl:=f74p0) (je:=(some zcj)) (B:=f74B) Try.func74 (by kernel_rfl) (by kernel_rfl) (by kernel_rfl) z34 f74GOk (by kernel_rfl) (by kernel_rfl) (by kernel_rfl) (by kernel_rfl) fun X hb hp=>by
  obtain ⟨a,_⟩:=X
  obtain ⟨N,h⟩:=h a hb.1
  exact ⟨N,(f74m N a).trans (h N (Nat.le_refl N))⟩
theorem e74ok:z0r Try.prog 74 e74:=f74ok z0l.ok
end Go.Fw
namespace Go.Fw
variable {ρ:Type}
open Go.Proofs
def zhn:Sig:=⟨[⟨.sl 3 (.int .i64),false,false⟩,⟨.int .i64,false,false⟩],[⟨.bool,false,false⟩]⟩
def e129:z2v:=⟨zhn,none,fun X=>((),((z21.g X.1 X.2.1),()))⟩
def f129G:Gm:=z24
theorem f129GOk:GOk Try.prog f129G:=GOk.nil
def zdv:z09:=⟨[],[],[],[],[]⟩
def y2v (a:LI) (b:Int):St:=z2j zhn.ps (a,(b,()))
def ztw (a:LI) (b:Int):St:=z1k [(0,.c (.sn 3 tI a none)),(1,xi b)] [] []
def f129l1:z09:=⟨[0,1],[],[],[],[]⟩
def zkf (a:LI) (b d:Int):St:=z1k [(0,.c (.sn 3 tI a none)),(1,xi b),(5,xi d)] [] []
def zpd:z09:=⟨[0,1,5],[],[],[],[]⟩
def zho :St:=z1k [] [] []
def zbq:z09:=⟨[],[],[],[],[]⟩
def zbp (a:Bool):St:=z1k [(4,xB a)] [] []
def f129l4:z09:=⟨[4],[],[],[],[]⟩
def f129B:Nat→Option z09:=z1n [(0,zbq),(1000000,f129l4)]
abbrev zdw {ρ:Type} (N:Nat) (c:Code) (p:z0p) (σ:St) (K:KT ρ):Option ρ:=z1t f129G tab f129B N c p σ K
def zco (n:Nat):Code:=z2x 99 (z25 Try.f129) n
theorem f129t1 N a b (K:KT ρ):zdw N (zco 2) .n (y2v a b) (z00 (some f129l1) K) =
 z21.Z1 N a b (fun a b=>K .nrm (ztw a b)):=by kernel_rfl
theorem f129t4 N a b (K:KT ρ):zdw N (zco 9) .n (ztw a b) (z00 (some zpd) K) =
 z21.Z4 N a b (fun a b c=>K .nrm (zkf a b c)):=by kernel_rfl
theorem f129t7 N a b c (K:KT ρ):zdw N (zco 37) .n (zkf a b c) (z00 (some zpd) K) =
 z21.Z7 N a b c (fun a b c=>K .nrm (zkf a b c)) (K (.exit 0) zho) (fun d=>K .ret (zbp d)):=by kernel_rfl
def f129p6:z0p:=.mk none (some zpd) .n .n
abbrev f129w6 {ρ:Type} (N M:Nat) (σ:St) (K:KT ρ):Option ρ:=z2r (fun σ K=>zdw N (zco 37) .n σ K) zpd M σ K
theorem y2u {ρ:Type} (N:Nat) (K:KT ρ):∀ (M:Nat) (a:LI) (b c:Int),f129w6 N M (zkf a b c) K =
 z21.Z6L N (K (.exit 0) zho) (fun d=>K .ret (zbp d)) M a b c
 | 0,_,_,_=>rfl
 | M + 1,a,b,c=>z12 (fun k=>z21.Z7 N a b c k (K (.exit 0) zho) (fun d=>K .ret (zbp d))) (f129t7 N (K:=z16 (fun σ=>f129w6 N M σ K) K) ..) (fx3 fun a b c=>y2u N K M a b c) (by kernel_rfl)
theorem f129t6 N a b c (K:KT ρ):zdw N (zco 21) f129p6 (zkf a b c) (z00 (some zbq) K) =
  z21.Z6 N a b c (K (.exit 0) zho) (fun d=>K .ret (zbp d)) :=
 z1d (by kernel_rfl) (y2u N (z00 (some zbq) K) N a b c) (by kernel_rfl)
def y2w:z0p:=.mk (some zbq) none f129p6 .n
theorem f129t5 N a b c (K:KT ρ):zdw N (zco 13) y2w (zkf a b c) (z00 (some zbq) K) =
  z21.Z5 N a b c (K .nrm zho) (fun d=>K .ret (zbp d)) :=
 z0n (by kernel_rfl) (f129t6 N (K:=z1j 0 (z00 (some zbq) K)) ..) (by kernel_rfl)
def f129p3:z0p:=.mk (some zpd) none .n y2w
theorem f129t3 N a b (K:KT ρ):zdw N (zco 5) f129p3 (ztw a b) (z00 (some zbq) K) =
  z21.Z3 N a b (K .nrm zho) (fun c=>K .ret (zbp c)) :=
 z05 (fun k=>z21.Z4 N a b k) (by kernel_rfl) (f129t4 N (K:=z16 (fun σ=>zdw N (zco 13) y2w σ (z00 (some zbq) K)) (z00 (some zbq) K)) ..) (fx3 fun a b d=>f129t5 N a b d K) (by kernel_rfl)
theorem f129t8 N  (K:KT ρ):zdw N (zco 7) .n zho (z00 (some zdv) K) =
 z21.Z8 N (fun a=>K .ret (zbp a)):=by kernel_rfl
def y2x:z0p:=.mk (some zbq) none f129p3 .n
theorem f129t2 N a b (K:KT ρ):zdw N (zco 3) y2x (ztw a b) (z00 (some zdv) K) =
  z21.Z2 N a b (fun c=>K .ret (zbp c)) :=
 z05 (fun k=>z21.Z3 N a b k (fun c=>K .ret (zbp c))) (by kernel_rfl) (f129t3 N (K:=z16 (fun σ=>zdw N (zco 7) .n σ (z00 (some zdv) K)) (z00 (some zdv) K)) ..) (f129t8 N K) (by kernel_rfl)
def y2y:z0p:=.mk (some f129l1) none .n y2x
theorem f129t0 N a b (K:KT ρ):zdw N (zco 1) y2y (y2v a b) (z00 (some zdv) K) =
  z21.Z0 N a b (fun c=>K .ret (zbp c)) :=
 z05 (fun k=>z21.Z1 N a b k) (by kernel_rfl) (f129t1 N (K:=z16 (fun σ=>zdw N (zco 3) y2x σ (z00 (some zdv) K)) (z00 (some zdv) K)) ..) (fx2 fun a b=>f129t2 N a b K) (by kernel_rfl)
theorem f129m (N:Nat) (a:LI) (b:Int):zdw N (zco 1) y2y (y2v a b) (z00 (some zdv) (z3o tab zhn Try.f129.results.toList)) = z21.Z0 N a b (fun c=>some ((),(c,()))) :=
 (f129t0 N a b (z3o tab zhn Try.f129.results.toList)).trans (by kernel_rfl)
theorem f129ok (h:z21.Spec):z0r Try.prog 129 e129 :=
 z0k (sig:=zhn) (c:=(zco 1)) (pl:=y2y) (je:=(some zdv)) (B:=f129B) Try.func129 (by kernel_rfl) (by kernel_rfl) (by kernel_rfl) z34 f129GOk (by kernel_rfl) (by kernel_rfl) (by kernel_rfl) (by kernel_rfl) fun X hb hp=>by
  obtain ⟨a,b,_⟩:=X
  obtain ⟨N,h⟩:=h a b hb.1
  exact ⟨N,(f129m N a b).trans (h N (Nat.le_refl N))⟩
theorem e129ok:z0r Try.prog 129 e129:=f129ok z21.ok
end Go.Fw
namespace Go.Fw
variable {ρ:Type}
open Go.Proofs
def zi0:Sig:=⟨[⟨.pair (.int .i64) (.pair (.int .i64) (.sl 3 (.int .i64))),true,false⟩,⟨.int .i64,false,false⟩],[⟨.sl 3 (.int .i64),false,false⟩,⟨.sl 3 (.int .i64),false,false⟩]⟩
def e118:z2v:=⟨zi0,(some fun X=>z0q.P X.1 X.2.1),fun X=>((),((z0q.g X.1 X.2.1).1,((z0q.g X.1 X.2.1).2,())))⟩
def f118G:Gm:=z4p (z4p z24 80 e80) 129 e129
theorem f118GOk:GOk Try.prog f118G:=((GOk.nil).add y69 (by kernel_rfl)).add e129ok (by kernel_rfl)
def z7u:z09:=⟨[],[],[],[],[]⟩
def y4j (a:MT) (b:Int):St:=z2j zi0.ps (a,(b,()))
def y4i (a b c:Int) (d:LI):St:=z1k [(1,xi a),(2,xb 2)] [(2,(30,[yi b,yi c,.sn 3 tI d none]))] []
def f118l1:z09:=⟨[1,2],[2],[],[],[]⟩
def y4h (a:LI) (b c d:Int) (e:LI):St:=z1k [(1,xi b),(2,xb 2),(6,xo 1000384)] [(2,(30,[yi c,yi d,.sn 3 tI e none]))] [(1000384,(⟨3,.int .i64,a,true,false⟩:Row))]
def f118l2:z09:=⟨[1,2,6],[2],[],[],[(⟨false,6,0⟩,1000384)]⟩
def zub (a b:LI) (c d:Int) (e:LI):St:=z1k [(2,xb 2),(6,xo 1000384),(7,xo 1000448)] [(2,(30,[yi c,yi d,.sn 3 tI e none]))] [(1000384,(⟨3,.int .i64,a,true,false⟩:Row)),(1000448,(⟨3,.int .i64,b,true,false⟩:Row))]
def f118l3:z09:=⟨[2,6,7],[2],[],[],[(⟨false,6,0⟩,1000384),(⟨false,7,0⟩,1000448)]⟩
def z59 (a b:LI) (c d e:Int) (f:LI):St:=z1k [(2,xb 2),(6,xo 1000384),(7,xo 1000448),(8,xi c)] [(2,(30,[yi d,yi e,.sn 3 tI f none]))] [(1000384,(⟨3,.int .i64,a,true,false⟩:Row)),(1000448,(⟨3,.int .i64,b,true,false⟩:Row))]
def z4d:z09:=⟨[2,6,7,8],[2],[],[],[(⟨false,6,0⟩,1000384),(⟨false,7,0⟩,1000448)]⟩
def zkk (a b:LI) (c d e f:Int) (g:LI):St:=z1k [(2,xb 2),(6,xo 1000384),(7,xo 1000448),(8,xi c),(9,xi d)] [(2,(30,[yi e,yi f,.sn 3 tI g none]))] [(1000384,(⟨3,.int .i64,a,true,false⟩:Row)),(1000448,(⟨3,.int .i64,b,true,false⟩:Row))]
def zpl:z09:=⟨[2,6,7,8,9],[2],[],[],[(⟨false,6,0⟩,1000384),(⟨false,7,0⟩,1000448)]⟩
def zdz (a b:LI):St:=z1k [(6,xo 1000384),(7,xo 1000448)] [] [(1000384,(⟨3,.int .i64,a,true,false⟩:Row)),(1000448,(⟨3,.int .i64,b,true,false⟩:Row))]
def zbs:z09:=⟨[6,7],[],[],[],[(⟨false,6,0⟩,1000384),(⟨false,7,0⟩,1000448)]⟩
def zpk (a b:LI):St:=z1k [(4,xo 1000256),(5,xo 1000320)] [] [(1000256,(⟨3,.int .i64,a,true,false⟩:Row)),(1000320,(⟨3,.int .i64,b,true,false⟩:Row))]
def f118l7:z09:=⟨[4,5],[],[],[],[(⟨false,4,0⟩,1000256),(⟨false,5,0⟩,1000320)]⟩
def f118B:Nat→Option z09:=z1n [(2,z4d),(1,z4d),(0,zbs),(1000000,f118l7)]
abbrev z5e {ρ:Type} (N:Nat) (c:Code) (p:z0p) (σ:St) (K:KT ρ):Option ρ:=z1t f118G tab f118B N c p σ K
def z53 (n:Nat):Code:=z2x 99 (z25 Try.f118) n
theorem f118t1 N b a (K:KT ρ):z5e N (z53 2) .n (y4j b a) (z00 (some f118l1) K) =
 z0q.Z1 N b a (fun a c d e=>K .nrm (y4i a c d e)):=by kernel_rfl
theorem f118t3 N a b c d (K:KT ρ):z5e N (z53 5) .n (y4i a b c d) (z00 (some f118l2) K) =
 z0q.Z3 N a b c d (fun e a b c d=>K .nrm (y4h e a b c d)):=by kernel_rfl
theorem f118t5 N a e b c d (K:KT ρ):z5e N (z53 11) .n (y4h a e b c d) (z00 (some f118l3) K) =
 z0q.Z5 N a e b c d (fun a f b c d=>K .nrm (zub a f b c d)):=by kernel_rfl
theorem f118t8 N a b c d e (K:KT ρ):z5e N (z53 39) .n (zub a b c d e) (z00 (some z4d) K) =
 z0q.Z8 N a b c d e (fun a b f c d e=>K .nrm (z59 a b f c d e)):=by kernel_rfl
theorem f118t12 N a b c d e f (K:KT ρ):z5e N (z53 279) .n (z59 a b c d e f) (z00 (some z4d) K) =
 z0q.Z12 N a b c d e f (fun a b c d e f=>K .nrm (z59 a b c d e f)) (fun a b=>K (.exit 0) (zdz a b)):=by kernel_rfl
theorem f118t16 N a b c d e f (K:KT ρ):z5e N (z53 2199) .n (z59 a b c d e f) (z00 (some zpl) K) =
 z0q.Z16 N a b c d e f (fun a b c g d e f=>K .nrm (zkk a b c g d e f)):=by kernel_rfl
theorem f118t19 N a b c g d e f (K:KT ρ):z5e N (z53 9367) .n (zkk a b c g d e f) (z00 (some zpl) K) =
 z0q.Z19 N a b c g d e f (fun a b c g d e f=>K .nrm (zkk a b c g d e f)) (fun a b c d e f=>K (.exit 2) (z59 a b c d e f)):=by kernel_rfl
def y4o:z0p:=.mk none (some zpl) .n .n
abbrev y4f {ρ:Type} (N M:Nat) (σ:St) (K:KT ρ):Option ρ:=z2r (fun σ K=>z5e N (z53 9367) .n σ K) zpl M σ K
theorem zu9 {ρ:Type} (N:Nat) (K:KT ρ):∀ (M:Nat) (a b:LI) (c g d e:Int) (f:LI),y4f N M (zkk a b c g d e f) K =
 z0q.Z18L N (fun a b c d e f=>K (.exit 2) (z59 a b c d e f)) M a b c g d e f
 | 0,_,_,_,_,_,_,_=>rfl
 | M + 1,a,b,c,g,d,e,f=>z12 (fun k=>z0q.Z19 N a b c g d e f k (fun a b c d e f=>K (.exit 2) (z59 a b c d e f))) (f118t19 N (K:=z16 (fun σ=>y4f N M σ K) K) ..) (fx7 fun a b c g d e f=>zu9 N K M a b c g d e f) (by kernel_rfl)
theorem f118t18 N a b c g d e f (K:KT ρ):z5e N (z53 5271) y4o (zkk a b c g d e f) (z00 (some z4d) K) =
  z0q.Z18 N a b c g d e f (fun a b c d e f=>K (.exit 2) (z59 a b c d e f)) :=
 z1d (by kernel_rfl) (zu9 N (z00 (some z4d) K) N a b c g d e f) (by kernel_rfl)
def zru:z0p:=.mk (some z4d) none y4o .n
theorem f118t17 N a b c g d e f (K:KT ρ):z5e N (z53 3223) zru (zkk a b c g d e f) (z00 (some z4d) K) =
  z0q.Z17 N a b c g d e f (fun a b c d e f=>K .nrm (z59 a b c d e f)) :=
 z0n (by kernel_rfl) (f118t18 N (K:=z1j 2 (z00 (some z4d) K)) ..) (by kernel_rfl)
def y4p:z0p:=.mk (some zpl) none .n zru
theorem f118t15 N a b c d e f (K:KT ρ):z5e N (z53 1175) y4p (z59 a b c d e f) (z00 (some z4d) K) =
  z0q.Z15 N a b c d e f (fun a b c d e f=>K .nrm (z59 a b c d e f)) :=
 z05 (fun k=>z0q.Z16 N a b c d e f k) (by kernel_rfl) (f118t16 N (K:=z16 (fun σ=>z5e N (z53 3223) zru σ (z00 (some z4d) K)) (z00 (some z4d) K)) ..) (fx7 fun a b c g d e f=>f118t17 N a b c g d e f K) (by kernel_rfl)
def y4q:z0p:=.mk (some z4d) none y4p .n
theorem f118t14 N a b c d e f (K:KT ρ):z5e N (z53 663) y4q (z59 a b c d e f) (z00 (some z4d) K) =
  z0q.Z14 N a b c d e f (fun a b c d e f=>K .nrm (z59 a b c d e f)) :=
 z0n (by kernel_rfl) (f118t15 N (K:=z1j 1 (z00 (some z4d) K)) ..) (by kernel_rfl)
theorem f118t20 N a b c d e f (K:KT ρ):z5e N (z53 919) .n (z59 a b c d e f) (z00 (some z4d) K) =
 z0q.Z20 N a b c d e f (fun a b c d e f=>K .nrm (z59 a b c d e f)):=by kernel_rfl
def zrv:z0p:=.mk (some z4d) none y4q .n
theorem f118t13 N a b c d e f (K:KT ρ):z5e N (z53 407) zrv (z59 a b c d e f) (z00 (some z4d) K) =
  z0q.Z13 N a b c d e f (fun a b c d e f=>K .nrm (z59 a b c d e f)) :=
 z05 (fun k=>z0q.Z14 N a b c d e f k) (by kernel_rfl) (f118t14 N (K:=z16 (fun σ=>z5e N (z53 919) .n σ (z00 (some z4d) K)) (z00 (some z4d) K)) ..) (fx6 fun a b c d e f=>f118t20 N a b c d e f K) (by kernel_rfl)
def zrw:z0p:=.mk (some z4d) none .n zrv
theorem f118t11 N a b c d e f (K:KT ρ):z5e N (z53 151) zrw (z59 a b c d e f) (z00 (some z4d) K) =
  z0q.Z11 N a b c d e f (fun a b c d e f=>K .nrm (z59 a b c d e f)) (fun a b=>K (.exit 0) (zdz a b)) :=
 z05 (fun k=>z0q.Z12 N a b c d e f k (fun a b=>K (.exit 0) (zdz a b))) (by kernel_rfl) (f118t12 N (K:=z16 (fun σ=>z5e N (z53 407) zrv σ (z00 (some z4d) K)) (z00 (some z4d) K)) ..) (fx6 fun a b c d e f=>f118t13 N a b c d e f K) (by kernel_rfl)
def y4r:z0p:=.mk none (some z4d) zrw .n
abbrev y4g {ρ:Type} (N M:Nat) (σ:St) (K:KT ρ):Option ρ:=z2r (fun σ K=>z5e N (z53 151) zrw σ K) z4d M σ K
theorem zua {ρ:Type} (N:Nat) (K:KT ρ):∀ (M:Nat) (a b:LI) (c d e:Int) (f:LI),y4g N M (z59 a b c d e f) K =
 z0q.Z10L N (fun a b=>K (.exit 0) (zdz a b)) M a b c d e f
 | 0,_,_,_,_,_,_=>rfl
 | M + 1,a,b,c,d,e,f=>z12 (fun k=>z0q.Z11 N a b c d e f k (fun a b=>K (.exit 0) (zdz a b))) (f118t11 N (K:=z16 (fun σ=>y4g N M σ K) K) ..) (fx6 fun a b c d e f=>zua N K M a b c d e f) (by kernel_rfl)
theorem f118t10 N a b c d e f (K:KT ρ):z5e N (z53 87) y4r (z59 a b c d e f) (z00 (some zbs) K) =
  z0q.Z10 N a b c d e f (fun a b=>K (.exit 0) (zdz a b)) :=
 z1d (by kernel_rfl) (zua N (z00 (some zbs) K) N a b c d e f) (by kernel_rfl)
def y4k:z0p:=.mk (some zbs) none y4r .n
theorem f118t9 N a b c d e f (K:KT ρ):z5e N (z53 55) y4k (z59 a b c d e f) (z00 (some zbs) K) =
  z0q.Z9 N a b c d e f (fun a b=>K .nrm (zdz a b)) :=
 z0n (by kernel_rfl) (f118t10 N (K:=z1j 0 (z00 (some zbs) K)) ..) (by kernel_rfl)
def f118p7:z0p:=.mk (some z4d) none .n y4k
theorem f118t7 N a b c d e (K:KT ρ):z5e N (z53 23) f118p7 (zub a b c d e) (z00 (some zbs) K) =
  z0q.Z7 N a b c d e (fun a b=>K .nrm (zdz a b)) :=
 z05 (fun k=>z0q.Z8 N a b c d e k) (by kernel_rfl) (f118t8 N (K:=z16 (fun σ=>z5e N (z53 55) y4k σ (z00 (some zbs) K)) (z00 (some zbs) K)) ..) (fx6 fun a b f c d e=>f118t9 N a b f c d e K) (by kernel_rfl)
theorem f118t21 N a b (K:KT ρ):z5e N (z53 31) .n (zdz a b) (z00 (some z7u) K) =
 z0q.Z21 N a b (fun c d=>K .ret (zpk c d)):=by kernel_rfl
def y4l:z0p:=.mk (some zbs) none f118p7 .n
theorem f118t6 N a b c d e (K:KT ρ):z5e N (z53 15) y4l (zub a b c d e) (z00 (some z7u) K) =
  z0q.Z6 N a b c d e (fun f g=>K .ret (zpk f g)) :=
 z05 (fun k=>z0q.Z7 N a b c d e k) (by kernel_rfl) (f118t7 N (K:=z16 (fun σ=>z5e N (z53 31) .n σ (z00 (some z7u) K)) (z00 (some z7u) K)) ..) (fx2 fun a b=>f118t21 N a b K) (by kernel_rfl)
def y4m:z0p:=.mk (some f118l3) none .n y4l
theorem f118t4 N a e b c d (K:KT ρ):z5e N (z53 7) y4m (y4h a e b c d) (z00 (some z7u) K) =
  z0q.Z4 N a e b c d (fun f g=>K .ret (zpk f g)) :=
 z05 (fun k=>z0q.Z5 N a e b c d k) (by kernel_rfl) (f118t5 N (K:=z16 (fun σ=>z5e N (z53 15) y4l σ (z00 (some z7u) K)) (z00 (some z7u) K)) ..) (fx5 fun a h b c d=>f118t6 N a h b c d K) (by kernel_rfl)
def y4n:z0p:=.mk (some f118l2) none .n y4m
theorem f118t2 N a b c d (K:KT ρ):z5e N (z53 3) y4n (y4i a b c d) (z00 (some z7u) K) =
  z0q.Z2 N a b c d (fun e f=>K .ret (zpk e f)) :=
 z05 (fun k=>z0q.Z3 N a b c d k) (by kernel_rfl) (f118t3 N (K:=z16 (fun σ=>z5e N (z53 7) y4m σ (z00 (some z7u) K)) (z00 (some z7u) K)) ..) (fx5 fun g a b c d=>f118t4 N g a b c d K) (by kernel_rfl)
def y4s:z0p:=.mk (some f118l1) none .n y4n
theorem f118t0 N b a (K:KT ρ):z5e N (z53 1) y4s (y4j b a) (z00 (some z7u) K) =
  z0q.Z0 N b a (fun c d=>K .ret (zpk c d)) :=
 z05 (fun k=>z0q.Z1 N b a k) (by kernel_rfl) (f118t1 N (K:=z16 (fun σ=>z5e N (z53 3) y4n σ (z00 (some z7u) K)) (z00 (some z7u) K)) ..) (fx4 fun a e f g=>f118t2 N a e f g K) (by kernel_rfl)
theorem f118m (N:Nat) (a:MT) (b:Int):z5e N (z53 1) y4s (y4j a b) (z00 (some z7u) (z3o tab zi0 Try.f118.results.toList)) = z0q.Z0 N a b (fun c d=>some ((),(c,(d,())))) :=
 (f118t0 N a b (z3o tab zi0 Try.f118.results.toList)).trans (by kernel_rfl)
theorem f118ok (h:z0q.Spec):z0r Try.prog 118 e118 :=
 z0k (sig:=zi0) (c:=(z53 1)) (pl:=y4s) (je:=(some z7u)) (B:=f118B) Try.func118 (by kernel_rfl) (by kernel_rfl) (by kernel_rfl) z34 f118GOk (by kernel_rfl) (by kernel_rfl) (by kernel_rfl) (by kernel_rfl) fun X hb hp=>by
  obtain ⟨a,b,_⟩:=X
  obtain ⟨N,h⟩:=h a b hb.1 hp
  exact ⟨N,(f118m N a b).trans (h N (Nat.le_refl N))⟩
theorem e118ok:z0r Try.prog 118 e118:=f118ok z0q.ok
end Go.Fw
namespace Go.Fw
variable {ρ:Type}
open Go.Proofs
def zhz:Sig:=⟨[⟨.int .i64,false,false⟩],[⟨.int .i64,false,false⟩]⟩
def e119:z2v:=⟨zhz,none,fun X=>((),((z3a.g X.1),()))⟩
def f119G:Gm:=z24
theorem f119GOk:GOk Try.prog f119G:=GOk.nil
def y4e:z09:=⟨[],[],[],[],[]⟩
def f119s0 (a:Int):St:=z2j zhz.ps (a,())
def f119s1 (a:Int):St:=z1k [(2,xi a)] [] []
def f119l1:z09:=⟨[2],[],[],[],[]⟩
def f119B:Nat→Option z09:=z1n [(1000000,f119l1)]
abbrev f119i {ρ:Type} (N:Nat) (c:Code) (p:z0p) (σ:St) (K:KT ρ):Option ρ:=z1t f119G tab f119B N c p σ K
def f119c (n:Nat):Code:=z2x 99 (z25 Try.f119) n
theorem f119t0 N a (K:KT ρ):f119i N (f119c 1) .n (f119s0 a) (z00 (some y4e) K) =
 z3a.Z0 N a (fun b=>K .ret (f119s1 b)):=by kernel_rfl
theorem f119m (N:Nat) (a:Int):f119i N (f119c 1) .n (f119s0 a) (z00 (some y4e) (z3o tab zhz Try.f119.results.toList)) = z3a.Z0 N a (fun b=>some ((),(b,()))) :=
 (f119t0 N a (z3o tab zhz Try.f119.results.toList)).trans (by kernel_rfl)
theorem f119ok (h:z3a.Spec):z0r Try.prog 119 e119 :=
 z0k (sig:=zhz) (c:=(f119c 1)) (pl:=.n) (je:=(some y4e)) (B:=f119B) Try.func119 (by kernel_rfl) (by kernel_rfl) (by kernel_rfl) z34 f119GOk (by kernel_rfl) (by kernel_rfl) (by kernel_rfl) (by kernel_rfl) fun X hb hp=>by
  obtain ⟨a,_⟩:=X
  obtain ⟨N,h⟩:=h a
  exact ⟨N,(f119m N a).trans (h N (Nat.le_refl N))⟩
theorem e119ok:z0r Try.prog 119 e119:=f119ok z3a.ok
end Go.Fw
namespace Go.Fw
variable {ρ:Type}
open Go.Proofs
def zhv:Sig:=⟨[⟨.int .i64,false,false⟩,⟨.int .i64,false,false⟩],[⟨.int .i64,false,false⟩]⟩
def e120:z2v:=⟨zhv,(some fun X=>z2b.P X.1 X.2.1),fun X=>((),((z2b.g X.1 X.2.1),()))⟩
def f120G:Gm:=z24
theorem f120GOk:GOk Try.prog f120G:=GOk.nil
def zdy:z09:=⟨[],[],[],[],[]⟩
def y4b (a b:Int):St:=z2j zhv.ps (a,(b,()))
def zhw (a b:Int):St:=z1k [(0,xi a),(1,xi b)] [] []
def zpj:z09:=⟨[0,1],[],[],[],[]⟩
def zkj (a:Int):St:=z1k [(0,xi a)] [] []
def zhx:z09:=⟨[0],[],[],[],[]⟩
def y4a (a:Int):St:=z1k [(4,xi a)] [] []
def f120l3:z09:=⟨[4],[],[],[],[]⟩
def f120B:Nat→Option z09:=z1n [(0,zhx),(1000000,f120l3)]
abbrev zhy {ρ:Type} (N:Nat) (c:Code) (p:z0p) (σ:St) (K:KT ρ):Option ρ:=z1t f120G tab f120B N c p σ K
def zg3 (n:Nat):Code:=z2x 99 (z25 Try.f120) n
theorem f120t1 N a b (K:KT ρ):zhy N (zg3 2) .n (y4b a b) (z00 (some zpj) K) =
 z2b.Z1 N a b (fun a b=>K .nrm (zhw a b)):=by kernel_rfl
theorem f120t5 N a b (K:KT ρ):zhy N (zg3 17) .n (zhw a b) (z00 (some zpj) K) =
 z2b.Z5 N a b (fun a b=>K .nrm (zhw a b)) (fun a=>K (.exit 0) (zkj a)):=by kernel_rfl
def f120p4:z0p:=.mk none (some zpj) .n .n
abbrev f120w4 {ρ:Type} (N M:Nat) (σ:St) (K:KT ρ):Option ρ:=z2r (fun σ K=>zhy N (zg3 17) .n σ K) zpj M σ K
theorem y49 {ρ:Type} (N:Nat) (K:KT ρ):∀ (M:Nat) (a b:Int),f120w4 N M (zhw a b) K =
 z2b.Z4L N (fun a=>K (.exit 0) (zkj a)) M a b
 | 0,_,_=>rfl
 | M + 1,a,b=>z12 (fun k=>z2b.Z5 N a b k (fun a=>K (.exit 0) (zkj a))) (f120t5 N (K:=z16 (fun σ=>f120w4 N M σ K) K) ..) (fx2 fun a b=>y49 N K M a b) (by kernel_rfl)
theorem f120t4 N a b (K:KT ρ):zhy N (zg3 9) f120p4 (zhw a b) (z00 (some zhx) K) =
  z2b.Z4 N a b (fun a=>K (.exit 0) (zkj a)) :=
 z1d (by kernel_rfl) (y49 N (z00 (some zhx) K) N a b) (by kernel_rfl)
def f120p3:z0p:=.mk (some zhx) none f120p4 .n
theorem f120t3 N a b (K:KT ρ):zhy N (zg3 5) f120p3 (zhw a b) (z00 (some zhx) K) =
  z2b.Z3 N a b (fun a=>K .nrm (zkj a)) :=
 z0n (by kernel_rfl) (f120t4 N (K:=z1j 0 (z00 (some zhx) K)) ..) (by kernel_rfl)
theorem f120t6 N a (K:KT ρ):zhy N (zg3 7) .n (zkj a) (z00 (some zdy) K) =
 z2b.Z6 N a (fun b=>K .ret (y4a b)):=by kernel_rfl
def y4c:z0p:=.mk (some zhx) none f120p3 .n
theorem f120t2 N a b (K:KT ρ):zhy N (zg3 3) y4c (zhw a b) (z00 (some zdy) K) =
  z2b.Z2 N a b (fun c=>K .ret (y4a c)) :=
 z05 (fun k=>z2b.Z3 N a b k) (by kernel_rfl) (f120t3 N (K:=z16 (fun σ=>zhy N (zg3 7) .n σ (z00 (some zdy) K)) (z00 (some zdy) K)) ..) (funext fun a=>f120t6 N a K) (by kernel_rfl)
def y4d:z0p:=.mk (some zpj) none .n y4c
theorem f120t0 N a b (K:KT ρ):zhy N (zg3 1) y4d (y4b a b) (z00 (some zdy) K) =
  z2b.Z0 N a b (fun c=>K .ret (y4a c)) :=
 z05 (fun k=>z2b.Z1 N a b k) (by kernel_rfl) (f120t1 N (K:=z16 (fun σ=>zhy N (zg3 3) y4c σ (z00 (some zdy) K)) (z00 (some zdy) K)) ..) (fx2 fun a b=>f120t2 N a b K) (by kernel_rfl)
theorem f120m (N:Nat) (a b:Int):zhy N (zg3 1) y4d (y4b a b) (z00 (some zdy) (z3o tab zhv Try.f120.results.toList)) = z2b.Z0 N a b (fun c=>some ((),(c,()))) :=
 (f120t0 N a b (z3o tab zhv Try.f120.results.toList)).trans (by kernel_rfl)
theorem f120ok (h:z2b.Spec):z0r Try.prog 120 e120 :=
 z0k (sig:=zhv) (c:=(zg3 1)) (pl:=y4d) (je:=(some zdy)) (B:=f120B) Try.func120 (by kernel_rfl) (by kernel_rfl) (by kernel_rfl) z34 f120GOk (by kernel_rfl) (by kernel_rfl) (by kernel_rfl) (by kernel_rfl) fun X hb hp=>by
  obtain ⟨a,b,_⟩:=X
  obtain ⟨N,h⟩:=h a b hp
  exact ⟨N,(f120m N a b).trans (h N (Nat.le_refl N))⟩
theorem e120ok:z0r Try.prog 120 e120:=f120ok z2b.ok
end Go.Fw
namespace Go.Fw
variable {ρ:Type}
open Go.Proofs
def zo4:Sig:=⟨[⟨.pair (.int .i64) (.pair (.int .i64) (.sl 3 (.int .i64))),true,false⟩],[⟨.sl 3 (.int .i64),false,false⟩,⟨.bool,false,false⟩]⟩
def e94:z2v:=⟨zo4,(some fun X=>z03.P X.1),fun X=>((),((z03.g X.1).1,((z03.g X.1).2,())))⟩
def f94G:Gm:=z4p (z4p (z4p (z4p z24 80 e80) 118 e118) 119 e119) 120 e120
theorem f94GOk:GOk Try.prog f94G:=((((GOk.nil).add y69 (by kernel_rfl)).add e118ok (by kernel_rfl)).add e119ok (by kernel_rfl)).add e120ok (by kernel_rfl)
def zch:z09:=⟨[],[],[],[],[]⟩
def f94s0 (a:MT):St:=z2j zo4.ps (a,())
def f94s1 (a b:Int) (c:LI):St:=z1k [(1,xb 1)] [(1,(30,[yi a,yi b,.sn 3 tI c none]))] []
def f94l1:z09:=⟨[1],[1],[],[],[]⟩
def zcg (a:LI) (b c:Int) (d:LI):St:=z1k [(1,xb 1),(4,xo 1000256)] [(1,(30,[yi b,yi c,.sn 3 tI d none]))] [(1000256,(⟨3,.int .i64,a,true,false⟩:Row))]
def zfp:z09:=⟨[1,4],[1],[],[],[(⟨false,4,0⟩,1000256)]⟩
def z52 (a:LI) (b c d:Int) (e:LI):St:=z1k [(1,xb 1),(4,xo 1000256),(5,xi b)] [(1,(30,[yi c,yi d,.sn 3 tI e none]))] [(1000256,(⟨3,.int .i64,a,true,false⟩:Row))]
def z3x:z09:=⟨[1,4,5],[1],[],[],[(⟨false,4,0⟩,1000256)]⟩
def zcf (a b c:LI) (d e f:Int) (g:LI):St:=z1k [(1,xb 1),(4,xo 1000256),(5,xi d),(6,xo 1000384),(7,xo 1000448)] [(1,(30,[yi e,yi f,.sn 3 tI g none]))] [(1000256,(⟨3,.int .i64,a,true,false⟩:Row)),(1000384,(⟨3,.int .i64,b,true,false⟩:Row)),(1000448,(⟨3,.int .i64,c,true,false⟩:Row))]
def zdo:z09:=⟨[1,4,5,6,7],[1],[],[],[(⟨false,4,0⟩,1000256),(⟨false,6,0⟩,1000384),(⟨false,7,0⟩,1000448)]⟩
def zw0 (a b c:LI) (d e f g:Int) (h:LI):St:=z1k [(1,xb 1),(4,xo 1000256),(5,xi d),(6,xo 1000384),(7,xo 1000448),(8,xi e)] [(1,(30,[yi f,yi g,.sn 3 tI h none]))] [(1000256,(⟨3,.int .i64,a,true,false⟩:Row)),(1000384,(⟨3,.int .i64,b,true,false⟩:Row)),(1000448,(⟨3,.int .i64,c,true,false⟩:Row))]
def zz9:z09:=⟨[1,4,5,6,7,8],[1],[],[],[(⟨false,4,0⟩,1000256),(⟨false,6,0⟩,1000384),(⟨false,7,0⟩,1000448)]⟩
def f94s6 (a b c:LI) (d e f g:Int) (h:LI):St:=z1k [(1,xb 1),(4,xo 1000256),(5,xi d),(6,xo 1000384),(7,xo 1000448),(9,xi e)] [(1,(30,[yi f,yi g,.sn 3 tI h none]))] [(1000256,(⟨3,.int .i64,a,true,false⟩:Row)),(1000384,(⟨3,.int .i64,b,true,false⟩:Row)),(1000448,(⟨3,.int .i64,c,true,false⟩:Row))]
def f94l6:z09:=⟨[1,4,5,6,7,9],[1],[],[],[(⟨false,4,0⟩,1000256),(⟨false,6,0⟩,1000384),(⟨false,7,0⟩,1000448)]⟩
def zvz (a b c:LI) (d e f g h:Int) (i:LI):St:=z1k [(1,xb 1),(4,xo 1000256),(5,xi d),(6,xo 1000384),(7,xo 1000448),(9,xi e),(10,xi f)] [(1,(30,[yi g,yi h,.sn 3 tI i none]))] [(1000256,(⟨3,.int .i64,a,true,false⟩:Row)),(1000384,(⟨3,.int .i64,b,true,false⟩:Row)),(1000448,(⟨3,.int .i64,c,true,false⟩:Row))]
def zz8:z09:=⟨[1,4,5,6,7,9,10],[1],[],[],[(⟨false,4,0⟩,1000256),(⟨false,6,0⟩,1000384),(⟨false,7,0⟩,1000448)]⟩
def zo5 (a b:LI) (c d e f:Int) (g:LI):St:=z1k [(1,xb 1),(4,xo 1000256),(5,xi c),(6,xo 1000384),(9,xi d)] [(1,(30,[yi e,yi f,.sn 3 tI g none]))] [(1000256,(⟨3,.int .i64,a,true,false⟩:Row)),(1000384,(⟨3,.int .i64,b,true,false⟩:Row))]
def zj2:z09:=⟨[1,4,5,6,9],[1],[],[],[(⟨false,4,0⟩,1000256),(⟨false,6,0⟩,1000384)]⟩
def zvy (a b:LI) (c d e f g:Int) (h:LI):St:=z1k [(1,xb 1),(4,xo 1000256),(5,xi c),(6,xo 1000384),(9,xi d),(11,xi e)] [(1,(30,[yi f,yi g,.sn 3 tI h none]))] [(1000256,(⟨3,.int .i64,a,true,false⟩:Row)),(1000384,(⟨3,.int .i64,b,true,false⟩:Row))]
def zz7:z09:=⟨[1,4,5,6,9,11],[1],[],[],[(⟨false,4,0⟩,1000256),(⟨false,6,0⟩,1000384)]⟩
def z58 (a:LI) (b c d:Int) (e:LI):St:=z1k [(1,xb 1),(4,xo 1000256),(12,xi b)] [(1,(30,[yi c,yi d,.sn 3 tI e none]))] [(1000256,(⟨3,.int .i64,a,true,false⟩:Row))]
def z4a:z09:=⟨[1,4,12],[1],[],[],[(⟨false,4,0⟩,1000256)]⟩
def zk7 (a:LI) (b c d e:Int) (f:LI):St:=z1k [(1,xb 1),(4,xo 1000256),(12,xi b),(13,xi c)] [(1,(30,[yi d,yi e,.sn 3 tI f none]))] [(1000256,(⟨3,.int .i64,a,true,false⟩:Row))]
def zo6:z09:=⟨[1,4,12,13],[1],[],[],[(⟨false,4,0⟩,1000256)]⟩
def zdn (a:LI):St:=z1k [(4,xo 1000256)] [] [(1000256,(⟨3,.int .i64,a,true,false⟩:Row))]
def zbc:z09:=⟨[4],[],[],[],[(⟨false,4,0⟩,1000256)]⟩
def z5k (a:LI) (b:Bool):St:=z1k [(2,xo 1000128),(3,xB b)] [] [(1000128,(⟨3,.int .i64,a,true,false⟩:Row))]
def f94l13:z09:=⟨[2,3],[],[⟨⟨false,2,0⟩,30000000,3,.int .i64,true⟩],[],[(⟨false,2,0⟩,1000128)]⟩
def f94B:Nat→Option z09:=z1n [(2,zdo),(4,zj2),(6,z3x),(1,z3x),(0,zfp),(10,z4a),(9,z4a),(8,zbc),(1000000,f94l13)]
abbrev z4f {ρ:Type} (N:Nat) (c:Code) (p:z0p) (σ:St) (K:KT ρ):Option ρ:=z1t f94G tab f94B N c p σ K
def z4b (n:Nat):Code:=z2x 99 (z25 Try.f94) n
theorem f94t1 N a (K:KT ρ):z4f N (z4b 2) .n (f94s0 a) (z00 (some f94l1) K) =
 z03.Z1 N a (fun b c d=>K .nrm (f94s1 b c d)):=by kernel_rfl
theorem f94t3 N a b c (K:KT ρ):z4f N (z4b 5) .n (f94s1 a b c) (z00 (some zfp) K) =
 z03.Z3 N a b c (fun d a b c=>K .nrm (zcg d a b c)):=by kernel_rfl
theorem f94t6 N a b c d (K:KT ρ):z4f N (z4b 19) .n (zcg a b c d) (z00 (some z3x) K) =
 z03.Z6 N a b c d (fun a e b c d=>K .nrm (z52 a e b c d)):=by kernel_rfl
theorem f94t10 N a e b c d (K:KT ρ):z4f N (z4b 139) .n (z52 a e b c d) (z00 (some z3x) K) =
 z03.Z10 N a e b c d (fun a e b c d=>K .nrm (z52 a e b c d)) (fun a b c d=>K (.exit 0) (zcg a b c d)):=by kernel_rfl
theorem f94t14 N a b c d e (K:KT ρ):z4f N (z4b 1099) .n (z52 a b c d e) (z00 (some z3x) K) =
 z03.Z14 N a b c d e (fun a b c d e=>K .nrm (z52 a b c d e)) (fun a b c d e=>K (.exit 1) (z52 a b c d e)):=by kernel_rfl
theorem f94t16 N a b c d e (K:KT ρ):z4f N (z4b 2635) .n (z52 a b c d e) (z00 (some zdo) K) =
 z03.Z16 N a b c d e (fun a f g b c d e=>K .nrm (zcf a f g b c d e)):=by kernel_rfl
theorem f94t18 N a b c d e f g (K:KT ρ):z4f N (z4b 5707) .n (zcf a b c d e f g) (z00 (some zdo) K) =
 z03.Z18 N a b c d e f g (fun a b c d e f g=>K .nrm (zcf a b c d e f g)):=by kernel_rfl
theorem f94t21 N a b c d e f g (K:KT ρ):z4f N (z4b 20043) .n (zcf a b c d e f g) (z00 (some zz9) K) =
 z03.Z21 N a b c d e f g (fun a b c d h e f g=>K .nrm (zw0 a b c d h e f g)):=by kernel_rfl
theorem f94t24 N a b c d h e f g (K:KT ρ):z4f N (z4b 77387) .n (zw0 a b c d h e f g) (z00 (some zz9) K) =
 z03.Z24 N a b c d h e f g (fun a b c d h e f g=>K .nrm (zw0 a b c d h e f g)) (fun a b c d e f g=>K (.exit 2) (zcf a b c d e f g)):=by kernel_rfl
def f94p23:z0p:=.mk none (some zz9) .n .n
abbrev f94w23 {ρ:Type} (N M:Nat) (σ:St) (K:KT ρ):Option ρ:=z2r (fun σ K=>z4f N (z4b 77387) .n σ K) zz9 M σ K
theorem zyr {ρ:Type} (N:Nat) (K:KT ρ):∀ (M:Nat) (a b c:LI) (d h e f:Int) (g:LI),f94w23 N M (zw0 a b c d h e f g) K =
 z03.Z23L N (fun a b c d e f g=>K (.exit 2) (zcf a b c d e f g)) M a b c d h e f g
 | 0,_,_,_,_,_,_,_,_=>rfl
 | M + 1,a,b,c,d,h,e,f,g=>z12 (fun k=>z03.Z24 N a b c d h e f g k (fun a b c d e f g=>K (.exit 2) (zcf a b c d e f g))) (f94t24 N (K:=z16 (fun σ=>f94w23 N M σ K) K) ..) (fx8 fun a b c d h e f g=>zyr N K M a b c d h e f g) (by kernel_rfl)
theorem f94t23 N a b c d h e f g (K:KT ρ):z4f N (z4b 44619) f94p23 (zw0 a b c d h e f g) (z00 (some zdo) K) =
  z03.Z23 N a b c d h e f g (fun a b c d e f g=>K (.exit 2) (zcf a b c d e f g)) :=
 z1d (by kernel_rfl) (zyr N (z00 (some zdo) K) N a b c d h e f g) (by kernel_rfl)
def zz2:z0p:=.mk (some zdo) none f94p23 .n
theorem f94t22 N a b c d h e f g (K:KT ρ):z4f N (z4b 28235) zz2 (zw0 a b c d h e f g) (z00 (some zdo) K) =
  z03.Z22 N a b c d h e f g (fun a b c d e f g=>K .nrm (zcf a b c d e f g)) :=
 z0n (by kernel_rfl) (f94t23 N (K:=z1j 2 (z00 (some zdo) K)) ..) (by kernel_rfl)
def f94p20:z0p:=.mk (some zz9) none .n zz2
theorem f94t20 N a b c d e f g (K:KT ρ):z4f N (z4b 11851) f94p20 (zcf a b c d e f g) (z00 (some zdo) K) =
  z03.Z20 N a b c d e f g (fun a b c d e f g=>K .nrm (zcf a b c d e f g)) :=
 z05 (fun k=>z03.Z21 N a b c d e f g k) (by kernel_rfl) (f94t21 N (K:=z16 (fun σ=>z4f N (z4b 28235) zz2 σ (z00 (some zdo) K)) (z00 (some zdo) K)) ..) (fx8 fun a b c d h e f g=>f94t22 N a b c d h e f g K) (by kernel_rfl)
theorem f94t26 N a b c d e f g (K:KT ρ):z4f N (z4b 24139) .n (zcf a b c d e f g) (z00 (some f94l6) K) =
 z03.Z26 N a b c d e f g (fun a b c d h e f g=>K .nrm (f94s6 a b c d h e f g)):=by kernel_rfl
theorem f94t29 N a b c d e f g h (K:KT ρ):z4f N (z4b 81483) .n (f94s6 a b c d e f g h) (z00 (some zz8) K) =
 z03.Z29 N a b c d e f g h (fun a b c d e i f g h=>K .nrm (zvz a b c d e i f g h)):=by kernel_rfl
theorem f94t32 N a b h c d i e f g (K:KT ρ):z4f N (z4b 310859) .n (zvz a b h c d i e f g) (z00 (some zz8) K) =
 z03.Z32 N a b h c d i e f g (fun a b h c d i e f g=>K .nrm (zvz a b h c d i e f g)) (fun a b c d e f g=>K (.exit 4) (zo5 a b c d e f g)):=by kernel_rfl
def f94p31:z0p:=.mk none (some zz8) .n .n
abbrev f94w31 {ρ:Type} (N M:Nat) (σ:St) (K:KT ρ):Option ρ:=z2r (fun σ K=>z4f N (z4b 310859) .n σ K) zz8 M σ K
theorem zyq {ρ:Type} (N:Nat) (K:KT ρ):∀ (M:Nat) (a b h:LI) (c d i e f:Int) (g:LI),f94w31 N M (zvz a b h c d i e f g) K =
 z03.Z31L N (fun a b c d e f g=>K (.exit 4) (zo5 a b c d e f g)) M a b h c d i e f g
 | 0,_,_,_,_,_,_,_,_,_=>rfl
 | M + 1,a,b,h,c,d,i,e,f,g=>z12 (fun k=>z03.Z32 N a b h c d i e f g k (fun a b c d e f g=>K (.exit 4) (zo5 a b c d e f g))) (f94t32 N (K:=z16 (fun σ=>f94w31 N M σ K) K) ..) (fx9 fun a b h c d i e f g=>zyq N K M a b h c d i e f g) (by kernel_rfl)
theorem f94t31 N a b h c d i e f g (K:KT ρ):z4f N (z4b 179787) f94p31 (zvz a b h c d i e f g) (z00 (some zj2) K) =
  z03.Z31 N a b h c d i e f g (fun a b c d e f g=>K (.exit 4) (zo5 a b c d e f g)) :=
 z1d (by kernel_rfl) (zyq N (z00 (some zj2) K) N a b h c d i e f g) (by kernel_rfl)
def zyz:z0p:=.mk (some zj2) none f94p31 .n
theorem f94t30 N a b h c d i e f g (K:KT ρ):z4f N (z4b 114251) zyz (zvz a b h c d i e f g) (z00 (some zj2) K) =
  z03.Z30 N a b h c d i e f g (fun a b c d e f g=>K .nrm (zo5 a b c d e f g)) :=
 z0n (by kernel_rfl) (f94t31 N (K:=z1j 4 (z00 (some zj2) K)) ..) (by kernel_rfl)
def f94p28:z0p:=.mk (some zz8) none .n zyz
theorem f94t28 N a b h c d e f g (K:KT ρ):z4f N (z4b 48715) f94p28 (f94s6 a b h c d e f g) (z00 (some zj2) K) =
  z03.Z28 N a b h c d e f g (fun a b c d e f g=>K .nrm (zo5 a b c d e f g)) :=
 z05 (fun k=>z03.Z29 N a b h c d e f g k) (by kernel_rfl) (f94t29 N (K:=z16 (fun σ=>z4f N (z4b 114251) zyz σ (z00 (some zj2) K)) (z00 (some zj2) K)) ..) (fx9 fun a b h c d i e f g=>f94t30 N a b h c d i e f g K) (by kernel_rfl)
theorem f94t34 N a b c d e f g (K:KT ρ):z4f N (z4b 97867) .n (zo5 a b c d e f g) (z00 (some zz7) K) =
 z03.Z34 N a b c d e f g (fun a b c d h e f g=>K .nrm (zvy a b c d h e f g)):=by kernel_rfl
theorem f94t37 N a f b g h c d e (K:KT ρ):z4f N (z4b 327243) .n (zvy a f b g h c d e) (z00 (some zz7) K) =
 z03.Z37 N a f b g h c d e (fun a f b g h c d e=>K .nrm (zvy a f b g h c d e)) (fun a b c d e=>K (.exit 6) (z52 a b c d e)):=by kernel_rfl
def f94p36:z0p:=.mk none (some zz7) .n .n
abbrev f94w36 {ρ:Type} (N M:Nat) (σ:St) (K:KT ρ):Option ρ:=z2r (fun σ K=>z4f N (z4b 327243) .n σ K) zz7 M σ K
theorem zyp {ρ:Type} (N:Nat) (K:KT ρ):∀ (M:Nat) (a f:LI) (b g h c d:Int) (e:LI),f94w36 N M (zvy a f b g h c d e) K =
 z03.Z36L N (fun a b c d e=>K (.exit 6) (z52 a b c d e)) M a f b g h c d e
 | 0,_,_,_,_,_,_,_,_=>rfl
 | M + 1,a,f,b,g,h,c,d,e=>z12 (fun k=>z03.Z37 N a f b g h c d e k (fun a b c d e=>K (.exit 6) (z52 a b c d e))) (f94t37 N (K:=z16 (fun σ=>f94w36 N M σ K) K) ..) (fx8 fun a f b g h c d e=>zyp N K M a f b g h c d e) (by kernel_rfl)
theorem f94t36 N a f b g h c d e (K:KT ρ):z4f N (z4b 196171) f94p36 (zvy a f b g h c d e) (z00 (some z3x) K) =
  z03.Z36 N a f b g h c d e (fun a b c d e=>K (.exit 6) (z52 a b c d e)) :=
 z1d (by kernel_rfl) (zyp N (z00 (some z3x) K) N a f b g h c d e) (by kernel_rfl)
def zyx:z0p:=.mk (some z3x) none f94p36 .n
theorem f94t35 N a f b g h c d e (K:KT ρ):z4f N (z4b 130635) zyx (zvy a f b g h c d e) (z00 (some z3x) K) =
  z03.Z35 N a f b g h c d e (fun a b c d e=>K .nrm (z52 a b c d e)) :=
 z0n (by kernel_rfl) (f94t36 N (K:=z1j 6 (z00 (some z3x) K)) ..) (by kernel_rfl)
def zyy:z0p:=.mk (some zz7) none .n zyx
theorem f94t33 N a f b g c d e (K:KT ρ):z4f N (z4b 65099) zyy (zo5 a f b g c d e) (z00 (some z3x) K) =
  z03.Z33 N a f b g c d e (fun a b c d e=>K .nrm (z52 a b c d e)) :=
 z05 (fun k=>z03.Z34 N a f b g c d e k) (by kernel_rfl) (f94t34 N (K:=z16 (fun σ=>z4f N (z4b 130635) zyx σ (z00 (some z3x) K)) (z00 (some z3x) K)) ..) (fx8 fun a f b g h c d e=>f94t35 N a f b g h c d e K) (by kernel_rfl)
def zz0:z0p:=.mk (some zj2) none f94p28 zyy
theorem f94t27 N a f h b g c d e (K:KT ρ):z4f N (z4b 32331) zz0 (f94s6 a f h b g c d e) (z00 (some z3x) K) =
  z03.Z27 N a f h b g c d e (fun a b c d e=>K .nrm (z52 a b c d e)) :=
 z05 (fun k=>z03.Z28 N a f h b g c d e k) (by kernel_rfl) (f94t28 N (K:=z16 (fun σ=>z4f N (z4b 65099) zyy σ (z00 (some z3x) K)) (z00 (some z3x) K)) ..) (fx7 fun a f b g c d e=>f94t33 N a f b g c d e K) (by kernel_rfl)
def zz1:z0p:=.mk (some f94l6) none .n zz0
theorem f94t25 N a f g b c d e (K:KT ρ):z4f N (z4b 15947) zz1 (zcf a f g b c d e) (z00 (some z3x) K) =
  z03.Z25 N a f g b c d e (fun a b c d e=>K .nrm (z52 a b c d e)) :=
 z05 (fun k=>z03.Z26 N a f g b c d e k) (by kernel_rfl) (f94t26 N (K:=z16 (fun σ=>z4f N (z4b 32331) zz0 σ (z00 (some z3x) K)) (z00 (some z3x) K)) ..) (fx8 fun a f g b h c d e=>f94t27 N a f g b h c d e K) (by kernel_rfl)
def zz3:z0p:=.mk (some zdo) none f94p20 zz1
theorem f94t19 N a f g b c d e (K:KT ρ):z4f N (z4b 7755) zz3 (zcf a f g b c d e) (z00 (some z3x) K) =
  z03.Z19 N a f g b c d e (fun a b c d e=>K .nrm (z52 a b c d e)) :=
 z05 (fun k=>z03.Z20 N a f g b c d e k) (by kernel_rfl) (f94t20 N (K:=z16 (fun σ=>z4f N (z4b 15947) zz1 σ (z00 (some z3x) K)) (z00 (some z3x) K)) ..) (fx7 fun a f g b c d e=>f94t25 N a f g b c d e K) (by kernel_rfl)
def zz4:z0p:=.mk (some zdo) none .n zz3
theorem f94t17 N a f g b c d e (K:KT ρ):z4f N (z4b 3659) zz4 (zcf a f g b c d e) (z00 (some z3x) K) =
  z03.Z17 N a f g b c d e (fun a b c d e=>K .nrm (z52 a b c d e)) :=
 z05 (fun k=>z03.Z18 N a f g b c d e k) (by kernel_rfl) (f94t18 N (K:=z16 (fun σ=>z4f N (z4b 7755) zz3 σ (z00 (some z3x) K)) (z00 (some z3x) K)) ..) (fx7 fun a f g b c d e=>f94t19 N a f g b c d e K) (by kernel_rfl)
def zz5:z0p:=.mk (some zdo) none .n zz4
theorem f94t15 N a b c d e (K:KT ρ):z4f N (z4b 1611) zz5 (z52 a b c d e) (z00 (some z3x) K) =
  z03.Z15 N a b c d e (fun a b c d e=>K .nrm (z52 a b c d e)) :=
 z05 (fun k=>z03.Z16 N a b c d e k) (by kernel_rfl) (f94t16 N (K:=z16 (fun σ=>z4f N (z4b 3659) zz4 σ (z00 (some z3x) K)) (z00 (some z3x) K)) ..) (fx7 fun a f g b c d e=>f94t17 N a f g b c d e K) (by kernel_rfl)
def f94p13:z0p:=.mk (some z3x) none .n zz5
theorem f94t13 N a b c d e (K:KT ρ):z4f N (z4b 587) f94p13 (z52 a b c d e) (z00 (some z3x) K) =
  z03.Z13 N a b c d e (fun a b c d e=>K .nrm (z52 a b c d e)) (fun a b c d e=>K (.exit 1) (z52 a b c d e)) :=
 z05 (fun k=>z03.Z14 N a b c d e k (fun a b c d e=>K (.exit 1) (z52 a b c d e))) (by kernel_rfl) (f94t14 N (K:=z16 (fun σ=>z4f N (z4b 1611) zz5 σ (z00 (some z3x) K)) (z00 (some z3x) K)) ..) (fx5 fun a b c d e=>f94t15 N a b c d e K) (by kernel_rfl)
def f94p12:z0p:=.mk (some z3x) none f94p13 .n
theorem f94t12 N a b c d e (K:KT ρ):z4f N (z4b 331) f94p12 (z52 a b c d e) (z00 (some z3x) K) =
  z03.Z12 N a b c d e (fun a b c d e=>K .nrm (z52 a b c d e)) :=
 z0n (by kernel_rfl) (f94t13 N (K:=z1j 1 (z00 (some z3x) K)) ..) (by kernel_rfl)
theorem f94t38 N a b c d e (K:KT ρ):z4f N (z4b 459) .n (z52 a b c d e) (z00 (some z3x) K) =
 z03.Z38 N a b c d e (fun a b c d e=>K .nrm (z52 a b c d e)):=by kernel_rfl
def zz6:z0p:=.mk (some z3x) none f94p12 .n
theorem f94t11 N a b c d e (K:KT ρ):z4f N (z4b 203) zz6 (z52 a b c d e) (z00 (some z3x) K) =
  z03.Z11 N a b c d e (fun a b c d e=>K .nrm (z52 a b c d e)) :=
 z05 (fun k=>z03.Z12 N a b c d e k) (by kernel_rfl) (f94t12 N (K:=z16 (fun σ=>z4f N (z4b 459) .n σ (z00 (some z3x) K)) (z00 (some z3x) K)) ..) (fx5 fun a b c d e=>f94t38 N a b c d e K) (by kernel_rfl)
def f94p9:z0p:=.mk (some z3x) none .n zz6
theorem f94t9 N a e b c d (K:KT ρ):z4f N (z4b 75) f94p9 (z52 a e b c d) (z00 (some z3x) K) =
  z03.Z9 N a e b c d (fun a e b c d=>K .nrm (z52 a e b c d)) (fun a b c d=>K (.exit 0) (zcg a b c d)) :=
 z05 (fun k=>z03.Z10 N a e b c d k (fun a b c d=>K (.exit 0) (zcg a b c d))) (by kernel_rfl) (f94t10 N (K:=z16 (fun σ=>z4f N (z4b 203) zz6 σ (z00 (some z3x) K)) (z00 (some z3x) K)) ..) (fx5 fun a e b c d=>f94t11 N a e b c d K) (by kernel_rfl)
def f94p8:z0p:=.mk none (some z3x) f94p9 .n
abbrev f94w8 {ρ:Type} (N M:Nat) (σ:St) (K:KT ρ):Option ρ:=z2r (fun σ K=>z4f N (z4b 75) f94p9 σ K) z3x M σ K
theorem f94t8L {ρ:Type} (N:Nat) (K:KT ρ):∀ (M:Nat) (a:LI) (e b c:Int) (d:LI),f94w8 N M (z52 a e b c d) K =
 z03.Z8L N (fun a b c d=>K (.exit 0) (zcg a b c d)) M a e b c d
 | 0,_,_,_,_,_=>rfl
 | M + 1,a,e,b,c,d=>z12 (fun k=>z03.Z9 N a e b c d k (fun a b c d=>K (.exit 0) (zcg a b c d))) (f94t9 N (K:=z16 (fun σ=>f94w8 N M σ K) K) ..) (fx5 fun a e b c d=>f94t8L N K M a e b c d) (by kernel_rfl)
theorem f94t8 N a e b c d (K:KT ρ):z4f N (z4b 43) f94p8 (z52 a e b c d) (z00 (some zfp) K) =
  z03.Z8 N a e b c d (fun a b c d=>K (.exit 0) (zcg a b c d)) :=
 z1d (by kernel_rfl) (f94t8L N (z00 (some zfp) K) N a e b c d) (by kernel_rfl)
def f94p7:z0p:=.mk (some zfp) none f94p8 .n
theorem f94t7 N a e b c d (K:KT ρ):z4f N (z4b 27) f94p7 (z52 a e b c d) (z00 (some zfp) K) =
  z03.Z7 N a e b c d (fun a b c d=>K .nrm (zcg a b c d)) :=
 z0n (by kernel_rfl) (f94t8 N (K:=z1j 0 (z00 (some zfp) K)) ..) (by kernel_rfl)
def f94p5:z0p:=.mk (some z3x) none .n f94p7
theorem f94t5 N a b c d (K:KT ρ):z4f N (z4b 11) f94p5 (zcg a b c d) (z00 (some zfp) K) =
  z03.Z5 N a b c d (fun a b c d=>K .nrm (zcg a b c d)) :=
 z05 (fun k=>z03.Z6 N a b c d k) (by kernel_rfl) (f94t6 N (K:=z16 (fun σ=>z4f N (z4b 27) f94p7 σ (z00 (some zfp) K)) (z00 (some zfp) K)) ..) (fx5 fun a e b c d=>f94t7 N a e b c d K) (by kernel_rfl)
theorem f94t41 N a b c d (K:KT ρ):z4f N (z4b 39) .n (zcg a b c d) (z00 (some z4a) K) =
 z03.Z41 N a b c d (fun a e b c d=>K .nrm (z58 a e b c d)):=by kernel_rfl
theorem f94t45 N a b c d e (K:KT ρ):z4f N (z4b 279) .n (z58 a b c d e) (z00 (some z4a) K) =
 z03.Z45 N a b c d e (fun a b c d e=>K .nrm (z58 a b c d e)) (fun a=>K (.exit 8) (zdn a)):=by kernel_rfl
theorem f94t49 N a b c d e (K:KT ρ):z4f N (z4b 2199) .n (z58 a b c d e) (z00 (some zo6) K) =
 z03.Z49 N a b c d e (fun a b f c d e=>K .nrm (zk7 a b f c d e)):=by kernel_rfl
theorem f94t52 N a b f c d e (K:KT ρ):z4f N (z4b 9367) .n (zk7 a b f c d e) (z00 (some zo6) K) =
 z03.Z52 N a b f c d e (fun a b f c d e=>K .nrm (zk7 a b f c d e)) (fun a b c d e=>K (.exit 10) (z58 a b c d e)) (fun g h=>K .ret (z5k g h)):=by kernel_rfl
def f94p51:z0p:=.mk none (some zo6) .n .n
abbrev f94w51 {ρ:Type} (N M:Nat) (σ:St) (K:KT ρ):Option ρ:=z2r (fun σ K=>z4f N (z4b 9367) .n σ K) zo6 M σ K
theorem zyn {ρ:Type} (N:Nat) (K:KT ρ):∀ (M:Nat) (a:LI) (b f c d:Int) (e:LI),f94w51 N M (zk7 a b f c d e) K =
 z03.Z51L N (fun a b c d e=>K (.exit 10) (z58 a b c d e)) (fun g h=>K .ret (z5k g h)) M a b f c d e
 | 0,_,_,_,_,_,_=>rfl
 | M + 1,a,b,f,c,d,e=>z12 (fun k=>z03.Z52 N a b f c d e k (fun a b c d e=>K (.exit 10) (z58 a b c d e)) (fun g h=>K .ret (z5k g h))) (f94t52 N (K:=z16 (fun σ=>f94w51 N M σ K) K) ..) (fx6 fun a b f c d e=>zyn N K M a b f c d e) (by kernel_rfl)
theorem f94t51 N a b f c d e (K:KT ρ):z4f N (z4b 5271) f94p51 (zk7 a b f c d e) (z00 (some z4a) K) =
  z03.Z51 N a b f c d e (fun a b c d e=>K (.exit 10) (z58 a b c d e)) (fun g h=>K .ret (z5k g h)) :=
 z1d (by kernel_rfl) (zyn N (z00 (some z4a) K) N a b f c d e) (by kernel_rfl)
def zys:z0p:=.mk (some z4a) none f94p51 .n
theorem f94t50 N a b f c d e (K:KT ρ):z4f N (z4b 3223) zys (zk7 a b f c d e) (z00 (some z4a) K) =
  z03.Z50 N a b f c d e (fun a b c d e=>K .nrm (z58 a b c d e)) (fun g h=>K .ret (z5k g h)) :=
 z0n (by kernel_rfl) (f94t51 N (K:=z1j 10 (z00 (some z4a) K)) ..) (by kernel_rfl)
def f94p48:z0p:=.mk (some zo6) none .n zys
theorem f94t48 N a b c d e (K:KT ρ):z4f N (z4b 1175) f94p48 (z58 a b c d e) (z00 (some z4a) K) =
  z03.Z48 N a b c d e (fun a b c d e=>K .nrm (z58 a b c d e)) (fun f g=>K .ret (z5k f g)) :=
 z05 (fun k=>z03.Z49 N a b c d e k) (by kernel_rfl) (f94t49 N (K:=z16 (fun σ=>z4f N (z4b 3223) zys σ (z00 (some z4a) K)) (z00 (some z4a) K)) ..) (fx6 fun a b h c d e=>f94t50 N a b h c d e K) (by kernel_rfl)
def f94p47:z0p:=.mk (some z4a) none f94p48 .n
theorem f94t47 N a b c d e (K:KT ρ):z4f N (z4b 663) f94p47 (z58 a b c d e) (z00 (some z4a) K) =
  z03.Z47 N a b c d e (fun a b c d e=>K .nrm (z58 a b c d e)) (fun f g=>K .ret (z5k f g)) :=
 z0n (by kernel_rfl) (f94t48 N (K:=z1j 9 (z00 (some z4a) K)) ..) (by kernel_rfl)
theorem f94t53 N a b c d e (K:KT ρ):z4f N (z4b 919) .n (z58 a b c d e) (z00 (some z4a) K) =
 z03.Z53 N a b c d e (fun a b c d e=>K .nrm (z58 a b c d e)):=by kernel_rfl
def zyt:z0p:=.mk (some z4a) none f94p47 .n
theorem f94t46 N a b c d e (K:KT ρ):z4f N (z4b 407) zyt (z58 a b c d e) (z00 (some z4a) K) =
  z03.Z46 N a b c d e (fun a b c d e=>K .nrm (z58 a b c d e)) (fun f g=>K .ret (z5k f g)) :=
 z05 (fun k=>z03.Z47 N a b c d e k (fun f g=>K .ret (z5k f g))) (by kernel_rfl) (f94t47 N (K:=z16 (fun σ=>z4f N (z4b 919) .n σ (z00 (some z4a) K)) (z00 (some z4a) K)) ..) (fx5 fun a b c d e=>f94t53 N a b c d e K) (by kernel_rfl)
def zyu:z0p:=.mk (some z4a) none .n zyt
theorem f94t44 N a b c d e (K:KT ρ):z4f N (z4b 151) zyu (z58 a b c d e) (z00 (some z4a) K) =
  z03.Z44 N a b c d e (fun a b c d e=>K .nrm (z58 a b c d e)) (fun a=>K (.exit 8) (zdn a)) (fun f g=>K .ret (z5k f g)) :=
 z05 (fun k=>z03.Z45 N a b c d e k (fun a=>K (.exit 8) (zdn a))) (by kernel_rfl) (f94t45 N (K:=z16 (fun σ=>z4f N (z4b 407) zyt σ (z00 (some z4a) K)) (z00 (some z4a) K)) ..) (fx5 fun a b c d e=>f94t46 N a b c d e K) (by kernel_rfl)
def f94p43:z0p:=.mk none (some z4a) zyu .n
abbrev f94w43 {ρ:Type} (N M:Nat) (σ:St) (K:KT ρ):Option ρ:=z2r (fun σ K=>z4f N (z4b 151) zyu σ K) z4a M σ K
theorem zyo {ρ:Type} (N:Nat) (K:KT ρ):∀ (M:Nat) (a:LI) (b c d:Int) (e:LI),f94w43 N M (z58 a b c d e) K =
 z03.Z43L N (fun a=>K (.exit 8) (zdn a)) (fun f g=>K .ret (z5k f g)) M a b c d e
 | 0,_,_,_,_,_=>rfl
 | M + 1,a,b,c,d,e=>z12 (fun k=>z03.Z44 N a b c d e k (fun a=>K (.exit 8) (zdn a)) (fun f g=>K .ret (z5k f g))) (f94t44 N (K:=z16 (fun σ=>f94w43 N M σ K) K) ..) (fx5 fun a b c d e=>zyo N K M a b c d e) (by kernel_rfl)
theorem f94t43 N a b c d e (K:KT ρ):z4f N (z4b 87) f94p43 (z58 a b c d e) (z00 (some zbc) K) =
  z03.Z43 N a b c d e (fun a=>K (.exit 8) (zdn a)) (fun f g=>K .ret (z5k f g)) :=
 z1d (by kernel_rfl) (zyo N (z00 (some zbc) K) N a b c d e) (by kernel_rfl)
def zyv:z0p:=.mk (some zbc) none f94p43 .n
theorem f94t42 N a b c d e (K:KT ρ):z4f N (z4b 55) zyv (z58 a b c d e) (z00 (some zbc) K) =
  z03.Z42 N a b c d e (fun a=>K .nrm (zdn a)) (fun f g=>K .ret (z5k f g)) :=
 z0n (by kernel_rfl) (f94t43 N (K:=z1j 8 (z00 (some zbc) K)) ..) (by kernel_rfl)
def f94p40:z0p:=.mk (some z4a) none .n zyv
theorem f94t40 N a b c d (K:KT ρ):z4f N (z4b 23) f94p40 (zcg a b c d) (z00 (some zbc) K) =
  z03.Z40 N a b c d (fun a=>K .nrm (zdn a)) (fun e f=>K .ret (z5k e f)) :=
 z05 (fun k=>z03.Z41 N a b c d k) (by kernel_rfl) (f94t41 N (K:=z16 (fun σ=>z4f N (z4b 55) zyv σ (z00 (some zbc) K)) (z00 (some zbc) K)) ..) (fx5 fun a g b c d=>f94t42 N a g b c d K) (by kernel_rfl)
theorem f94t54 N a (K:KT ρ):z4f N (z4b 31) .n (zdn a) (z00 (some zch) K) =
 z03.Z54 N a (fun b c=>K .ret (z5k b c)):=by kernel_rfl
def zyw:z0p:=.mk (some zbc) none f94p40 .n
theorem f94t39 N a b c d (K:KT ρ):z4f N (z4b 15) zyw (zcg a b c d) (z00 (some zch) K) =
  z03.Z39 N a b c d (fun e f=>K .ret (z5k e f)) :=
 z05 (fun k=>z03.Z40 N a b c d k (fun e f=>K .ret (z5k e f))) (by kernel_rfl) (f94t40 N (K:=z16 (fun σ=>z4f N (z4b 31) .n σ (z00 (some zch) K)) (z00 (some zch) K)) ..) (funext fun a=>f94t54 N a K) (by kernel_rfl)
def f94p4:z0p:=.mk (some zfp) none f94p5 zyw
theorem f94t4 N a b c d (K:KT ρ):z4f N (z4b 7) f94p4 (zcg a b c d) (z00 (some zch) K) =
  z03.Z4 N a b c d (fun e f=>K .ret (z5k e f)) :=
 z05 (fun k=>z03.Z5 N a b c d k) (by kernel_rfl) (f94t5 N (K:=z16 (fun σ=>z4f N (z4b 15) zyw σ (z00 (some zch) K)) (z00 (some zch) K)) ..) (fx4 fun a b c d=>f94t39 N a b c d K) (by kernel_rfl)
def f94p2:z0p:=.mk (some zfp) none .n f94p4
theorem f94t2 N a b c (K:KT ρ):z4f N (z4b 3) f94p2 (f94s1 a b c) (z00 (some zch) K) =
  z03.Z2 N a b c (fun d e=>K .ret (z5k d e)) :=
 z05 (fun k=>z03.Z3 N a b c k) (by kernel_rfl) (f94t3 N (K:=z16 (fun σ=>z4f N (z4b 7) f94p4 σ (z00 (some zch) K)) (z00 (some zch) K)) ..) (fx4 fun f a b c=>f94t4 N f a b c K) (by kernel_rfl)
def f94p0:z0p:=.mk (some f94l1) none .n f94p2
theorem f94t0 N a (K:KT ρ):z4f N (z4b 1) f94p0 (f94s0 a) (z00 (some zch) K) =
  z03.Z0 N a (fun b c=>K .ret (z5k b c)) :=
 z05 (fun k=>z03.Z1 N a k) (by kernel_rfl) (f94t1 N (K:=z16 (fun σ=>z4f N (z4b 3) f94p2 σ (z00 (some zch) K)) (z00 (some zch) K)) ..) (fx3 fun d e f=>f94t2 N d e f K) (by kernel_rfl)
theorem f94m (N:Nat) (a:MT):z4f N (z4b 1) f94p0 (f94s0 a) (z00 (some zch) (z3o tab zo4 Try.f94.results.toList)) = z03.Z0 N a (fun b c=>some ((),(b,(c,())))) :=
 (f94t0 N a (z3o tab zo4 Try.f94.results.toList)).trans (by kernel_rfl)
theorem f94ok (h:z03.Spec):z0r Try.prog 94 e94 :=
 z0k (sig:=zo4) (c:=(z4b 1)) (pl:=f94p0) (je:=(some zch)) (B:=f94B) Try.func94 (by kernel_rfl) (by kernel_rfl) (by kernel_rfl) z34 f94GOk (by kernel_rfl) (by kernel_rfl) (by kernel_rfl) (by kernel_rfl) fun X hb hp=>by
  obtain ⟨a,_⟩:=X
  obtain ⟨N,h⟩:=h a hb.1 hp
  exact ⟨N,(f94m N a).trans (h N (Nat.le_refl N))⟩
theorem e94ok:z0r Try.prog 94 e94:=f94ok z03.ok
end Go.Fw
namespace Go.Fw
variable {ρ:Type}
open Go.Proofs
def zou:Sig:=⟨[⟨.pair (.int .i64) (.pair (.int .i64) (.sl 3 (.int .i64))),true,false⟩],[⟨.bool,false,false⟩]⟩
def e51:z2v:=⟨zou,none,fun X=>((),((z31.g X.1),()))⟩
def f51G:Gm:=z4p (z4p z24 74 e74) 94 e94
theorem f51GOk:GOk Try.prog f51G:=((GOk.nil).add e74ok (by kernel_rfl)).add e94ok (by kernel_rfl)
def f51lE:z09:=⟨[],[],[],[],[]⟩
def f51s0 (a:MT):St:=z2j zou.ps (a,())
def f51s1 (a:Bool):St:=z1k [(2,xB a)] [] []
def f51l1:z09:=⟨[2],[],[],[],[]⟩
def f51B:Nat→Option z09:=z1n [(1000000,f51l1)]
abbrev f51i {ρ:Type} (N:Nat) (c:Code) (p:z0p) (σ:St) (K:KT ρ):Option ρ:=z1t f51G tab f51B N c p σ K
def f51c (n:Nat):Code:=z2x 99 (z25 Try.f51) n
theorem f51t0 N a (K:KT ρ):f51i N (f51c 1) .n (f51s0 a) (z00 (some f51lE) K) =
 z31.Z0 N a (fun b=>K .ret (f51s1 b)):=by kernel_rfl
theorem f51m (N:Nat) (a:MT):f51i N (f51c 1) .n (f51s0 a) (z00 (some f51lE) (z3o tab zou Try.f51.results.toList)) = z31.Z0 N a (fun b=>some ((),(b,()))) :=
 (f51t0 N a (z3o tab zou Try.f51.results.toList)).trans (by kernel_rfl)
theorem f51ok (h:z31.Spec):z0r Try.prog 51 e51 :=
 z0k (sig:=zou) (c:=(f51c 1)) (pl:=.n) (je:=(some f51lE)) (B:=f51B) Try.func51 (by kernel_rfl) (by kernel_rfl) (by kernel_rfl) z34 f51GOk (by kernel_rfl) (by kernel_rfl) (by kernel_rfl) (by kernel_rfl) fun X hb hp=>by
  obtain ⟨a,_⟩:=X
  obtain ⟨N,h⟩:=h a hb.1
  exact ⟨N,(f51m N a).trans (h N (Nat.le_refl N))⟩
theorem e51ok:z0r Try.prog 51 e51:=f51ok z31.ok
end Go.Fw
namespace Go.Fw
variable {ρ:Type}
open Go.Proofs
def zo7:Sig:=⟨[⟨.sl 3 (.int .i64),false,false⟩],[⟨.sl 3 (.int .i64),false,false⟩]⟩
def e92:z2v:=⟨zo7,(some fun X=>z2n.P X.1),fun X=>((),((z2n.g X.1),()))⟩
def f92G:Gm:=z24
theorem f92GOk:GOk Try.prog f92G:=GOk.nil
def f92lE:z09:=⟨[],[],[],[],[]⟩
def f92s0 (a:LI):St:=z2j zo7.ps (a,())
def f92s1 (a:LI):St:=z1k [(2,xo 1000128)] [] [(1000128,(⟨3,.int .i64,a,true,false⟩:Row))]
def f92l1:z09:=⟨[2],[],[],[],[(⟨false,2,0⟩,1000128)]⟩
def f92B:Nat→Option z09:=z1n [(1000000,f92l1)]
abbrev f92i {ρ:Type} (N:Nat) (c:Code) (p:z0p) (σ:St) (K:KT ρ):Option ρ:=z1t f92G tab f92B N c p σ K
def f92c (n:Nat):Code:=z2x 99 (z25 Try.f92) n
theorem f92t0 N a (K:KT ρ):f92i N (f92c 1) .n (f92s0 a) (z00 (some f92lE) K) =
 z2n.Z0 N a (fun b=>K .ret (f92s1 b)):=by kernel_rfl
theorem f92m (N:Nat) (a:LI):f92i N (f92c 1) .n (f92s0 a) (z00 (some f92lE) (z3o tab zo7 Try.f92.results.toList)) = z2n.Z0 N a (fun b=>some ((),(b,()))) :=
 (f92t0 N a (z3o tab zo7 Try.f92.results.toList)).trans (by kernel_rfl)
theorem f92ok (h:z2n.Spec):z0r Try.prog 92 e92 :=
 z0k (sig:=zo7) (c:=(f92c 1)) (pl:=.n) (je:=(some f92lE)) (B:=f92B) Try.func92 (by kernel_rfl) (by kernel_rfl) (by kernel_rfl) z34 f92GOk (by kernel_rfl) (by kernel_rfl) (by kernel_rfl) (by kernel_rfl) fun X hb hp=>by
  obtain ⟨a,_⟩:=X
  obtain ⟨N,h⟩:=h a hb.1 hp
  exact ⟨N,(f92m N a).trans (h N (Nat.le_refl N))⟩
theorem e92ok:z0r Try.prog 92 e92:=f92ok z2n.ok
end Go.Fw
namespace Go.Fw
variable {ρ:Type}
open Go.Proofs
def zie:Sig:=⟨[⟨.pair (.int .i64) (.pair (.int .i64) (.sl 3 (.int .i64))),true,false⟩],[⟨.pair (.int .i64) (.pair (.int .i64) (.sl 3 (.int .i64))),true,false⟩]⟩
def e102:z2v:=⟨zie,(some fun X=>z0y.P X.1),fun X=>((),((z0y.g X.1),()))⟩
def f102G:Gm:=z4p z24 92 e92
theorem f102GOk:GOk Try.prog f102G:=(GOk.nil).add e92ok (by kernel_rfl)
def y65:z09:=⟨[],[],[],[],[]⟩
def f102s0 (a:MT):St:=z2j zie.ps (a,())
def f102s1 (a:LI) (b c:Int):St:=z1k [(2,xb 2)] [(2,(30,[yi b,yi c,.own 20000130]))] [(20000130,(⟨3,.int .i64,a,true,false⟩:Row))]
def f102l1:z09:=⟨[2],[2],[],[],[(⟨true,2,2⟩,20000130)]⟩
def f102B:Nat→Option z09:=z1n [(1000000,f102l1)]
abbrev f102i {ρ:Type} (N:Nat) (c:Code) (p:z0p) (σ:St) (K:KT ρ):Option ρ:=z1t f102G tab f102B N c p σ K
def f102c (n:Nat):Code:=z2x 99 (z25 Try.f102) n
theorem f102t0 N a (K:KT ρ):f102i N (f102c 1) .n (f102s0 a) (z00 (some y65) K) =
 z0y.Z0 N a (fun b c d=>K .ret (f102s1 b c d)):=by kernel_rfl
theorem f102m (N:Nat) (a:MT):f102i N (f102c 1) .n (f102s0 a) (z00 (some y65) (z3o tab zie Try.f102.results.toList)) = z0y.Z0 N a (fun b c d=>some ((),((c,(d,b)),()))) :=
 (f102t0 N a (z3o tab zie Try.f102.results.toList)).trans (by kernel_rfl)
theorem f102ok (h:z0y.Spec):z0r Try.prog 102 e102 :=
 z0k (sig:=zie) (c:=(f102c 1)) (pl:=.n) (je:=(some y65)) (B:=f102B) Try.func102 (by kernel_rfl) (by kernel_rfl) (by kernel_rfl) z34 f102GOk (by kernel_rfl) (by kernel_rfl) (by kernel_rfl) (by kernel_rfl) fun X hb hp=>by
  obtain ⟨a,_⟩:=X
  obtain ⟨N,h⟩:=h a hb.1 hp
  exact ⟨N,(f102m N a).trans (h N (Nat.le_refl N))⟩
theorem y6b:z0r Try.prog 102 e102:=f102ok z0y.ok
end Go.Fw
namespace Go.Fw
variable {ρ:Type}
open Go.Proofs
def zoo:Sig:=⟨[⟨.pair (.int .i64) (.pair (.int .i64) (.sl 3 (.int .i64))),true,false⟩,⟨.int .i64,false,false⟩],[⟨.pair (.int .i64) (.pair (.int .i64) (.sl 3 (.int .i64))),true,false⟩]⟩
def e73:z2v:=⟨zoo,(some fun X=>z0c.P X.1 X.2.1),fun X=>((),((z0c.g X.1 X.2.1),()))⟩
def f73G:Gm:=z4p (z4p z24 80 e80) 102 e102
theorem f73GOk:GOk Try.prog f73G:=((GOk.nil).add y69 (by kernel_rfl)).add y6b (by kernel_rfl)
def zfu:z09:=⟨[],[],[],[],[]⟩
def f73s0 (a:MT) (b:Int):St:=z2j zoo.ps (a,(b,()))
def f73s1 (a b c:Int) (d:LI) (e f:Int):St:=z1k [(1,xi a),(2,xb 2),(4,xb 4)] [(2,(30,[yi b,yi c,.sn 3 tI d none])),(4,(30,[yi e,yi f,.nil]))] []
def f73l1:z09:=⟨[1,2,4],[2,4],[],[],[]⟩
def f73s2 (a:LI) (b c d:Int) (e:LI) (f g h i:Int):St:=z1k [(1,xi b),(2,xb 2),(4,xb 4),(5,xb 5)] [(2,(30,[yi c,yi d,.sn 3 tI e none])),(4,(30,[yi f,yi g,.nil])),(5,(30,[yi h,yi i,.own 20000322]))] [(20000322,(⟨3,.int .i64,a,true,false⟩:Row))]
def f73l2:z09:=⟨[1,2,4,5],[2,4,5],[],[],[(⟨true,5,2⟩,20000322)]⟩
def z7b (a:LI) (b c d e:Int) (f:LI) (g h i j:Int):St:=z1k [(1,xi b),(2,xb 2),(4,xb 4),(5,xb 5),(6,xi c)] [(2,(30,[yi d,yi e,.sn 3 tI f none])),(4,(30,[yi g,yi h,.nil])),(5,(30,[yi i,yi j,.own 20000322]))] [(20000322,(⟨3,.int .i64,a,true,false⟩:Row))]
def z6u:z09:=⟨[1,2,4,5,6],[2,4,5],[],[],[(⟨true,5,2⟩,20000322)]⟩
def z8d (a:LI) (b c d e f:Int) (g:LI) (h i j l:Int):St:=z1k [(1,xi b),(2,xb 2),(4,xb 4),(5,xb 5),(6,xi c),(7,xi d)] [(2,(30,[yi e,yi f,.sn 3 tI g none])),(4,(30,[yi h,yi i,.nil])),(5,(30,[yi j,yi l,.own 20000322]))] [(20000322,(⟨3,.int .i64,a,true,false⟩:Row))]
def z5l:z09:=⟨[1,2,4,5,6,7],[2,4,5],[],[],[(⟨true,5,2⟩,20000322)]⟩
def f73s5 (a:LI) (b c d e f g:Int) (h:LI) (i j l m:Int):St:=z1k [(1,xi b),(2,xb 2),(4,xb 4),(5,xb 5),(6,xi c),(7,xi d),(8,xi e)] [(2,(30,[yi f,yi g,.sn 3 tI h none])),(4,(30,[yi i,yi j,.nil])),(5,(30,[yi l,yi m,.own 20000322]))] [(20000322,(⟨3,.int .i64,a,true,false⟩:Row))]
def f73l5:z09:=⟨[1,2,4,5,6,7,8],[2,4,5],[],[],[(⟨true,5,2⟩,20000322)]⟩
def f73s6 (a:LI) (b c d e f g h:Int) (i:LI) (j l m o:Int):St:=z1k [(1,xi b),(2,xb 2),(4,xb 4),(5,xb 5),(6,xi c),(7,xi d),(8,xi e),(9,xi f)] [(2,(30,[yi g,yi h,.sn 3 tI i none])),(4,(30,[yi j,yi l,.nil])),(5,(30,[yi m,yi o,.own 20000322]))] [(20000322,(⟨3,.int .i64,a,true,false⟩:Row))]
def f73l6:z09:=⟨[1,2,4,5,6,7,8,9],[2,4,5],[],[],[(⟨true,5,2⟩,20000322)]⟩
def f73s7 (a:LI) (b c d e f:Int) (g:Bool) (h i:Int) (j:LI) (l m o p:Int):St:=z1k [(1,xi b),(2,xb 2),(4,xb 4),(5,xb 5),(6,xi c),(7,xi d),(8,xi e),(9,xi f),(32,xB g)] [(2,(30,[yi h,yi i,.sn 3 tI j none])),(4,(30,[yi l,yi m,.nil])),(5,(30,[yi o,yi p,.own 20000322]))] [(20000322,(⟨3,.int .i64,a,true,false⟩:Row))]
def f73l7:z09:=⟨[1,2,4,5,6,7,8,9,32],[2,4,5],[],[],[(⟨true,5,2⟩,20000322)]⟩
def zm2 (a:LI) (b c d e:Int):St:=z1k [(4,xb 4),(5,xb 5)] [(4,(30,[yi b,yi c,.nil])),(5,(30,[yi d,yi e,.own 20000322]))] [(20000322,(⟨3,.int .i64,a,true,false⟩:Row))]
def zj6:z09:=⟨[4,5],[4,5],[],[],[(⟨true,5,2⟩,20000322)]⟩
def f73s9 (a:LI) (b c:Int):St:=z1k [(4,xb 4)] [(4,(30,[yi b,yi c,.own 20000258]))] [(20000258,(⟨3,.int .i64,a,true,false⟩:Row))]
def f73l9:z09:=⟨[4],[4],[],[],[(⟨true,4,2⟩,20000258)]⟩
def f73B:Nat→Option z09:=z1n [(4,z5l),(3,z5l),(2,z6u),(1,z6u),(0,zj6),(1000000,f73l9)]
abbrev z7r {ρ:Type} (N:Nat) (c:Code) (p:z0p) (σ:St) (K:KT ρ):Option ρ:=z1t f73G tab f73B N c p σ K
def z7j (n:Nat):Code:=z2x 99 (z25 Try.f73) n
theorem f73t1 N b a (K:KT ρ):z7r N (z7j 2) .n (f73s0 b a) (z00 (some f73l1) K) =
 z0c.Z1 N b a (fun a c d e f g=>K .nrm (f73s1 a c d e f g)):=by kernel_rfl
theorem f73t3 N a b c d e f (K:KT ρ):z7r N (z7j 5) .n (f73s1 a b c d e f) (z00 (some f73l2) K) =
 z0c.Z3 N a b c d e f (fun g a b c d e f h i=>K .nrm (f73s2 g a b c d e f h i)):=by kernel_rfl
theorem f73t6 N a b c d e f g h i (K:KT ρ):z7r N (z7j 19) .n (f73s2 a b c d e f g h i) (z00 (some z6u) K) =
 z0c.Z6 N a b c d e f g h i (fun a b j c d e f g h i=>K .nrm (z7b a b j c d e f g h i)):=by kernel_rfl
theorem f73t10 N a f g h i j b c d e (K:KT ρ):z7r N (z7j 139) .n (z7b a f g h i j b c d e) (z00 (some z6u) K) =
 z0c.Z10 N a f g h i j b c d e (fun a f g h i j b c d e=>K .nrm (z7b a f g h i j b c d e)) (fun a b c d e=>K (.exit 0) (zm2 a b c d e)):=by kernel_rfl
theorem f73t14 N a b c d e f g h i j (K:KT ρ):z7r N (z7j 1099) .n (z7b a b c d e f g h i j) (z00 (some z5l) K) =
 z0c.Z14 N a b c d e f g h i j (fun a b c l d e f g h i j=>K .nrm (z8d a b c l d e f g h i j)):=by kernel_rfl
theorem f73t18 N a b c l d e f g h i j (K:KT ρ):z7r N (z7j 8779) .n (z8d a b c l d e f g h i j) (z00 (some z5l) K) =
 z0c.Z18 N a b c l d e f g h i j (fun a b c l d e f g h i j=>K .nrm (z8d a b c l d e f g h i j)) (fun a b c d e f g h i j=>K (.exit 2) (z7b a b c d e f g h i j)):=by kernel_rfl
theorem f73t22 N a b c d e f g h i j l (K:KT ρ):z7r N (z7j 70219) .n (z8d a b c d e f g h i j l) (z00 (some f73l5) K) =
 z0c.Z22 N a b c d e f g h i j l (fun a b c d m e f g h i j l=>K .nrm (f73s5 a b c d m e f g h i j l)):=by kernel_rfl
theorem f73t24 N a b c d e f g h i j l m (K:KT ρ):z7r N (z7j 168523) .n (f73s5 a b c d e f g h i j l m) (z00 (some f73l6) K) =
 z0c.Z24 N a b c d e f g h i j l m (fun a b c d e o f g h i j l m=>K .nrm (f73s6 a b c d e o f g h i j l m)):=by kernel_rfl
theorem f73t27 N a b c d e f g h i j l m o (K:KT ρ):z7r N (z7j 627275) .n (f73s6 a b c d e f g h i j l m o) (z00 (some f73l7) K) =
 z0c.Z27 N a b c d e f g h i j l m o (fun a b c d e f p g h i j l m o=>K .nrm (f73s7 a b c d e f p g h i j l m o)):=by kernel_rfl
theorem f73t28 N a b c d m o p e f g h i j l (K:KT ρ):z7r N (z7j 889419) .n (f73s7 a b c d m o p e f g h i j l) (z00 (some z5l) K) =
 z0c.Z28 N a b c d m o p e f g h i j l (fun a b c d e f g h i j l=>K .nrm (z8d a b c d e f g h i j l)):=by kernel_rfl
def f73p26:z0p:=.mk (some f73l7) none .n .n
theorem f73t26 N a b c d m o e f g h i j l (K:KT ρ):z7r N (z7j 365131) f73p26 (f73s6 a b c d m o e f g h i j l) (z00 (some z5l) K) =
  z0c.Z26 N a b c d m o e f g h i j l (fun a b c d e f g h i j l=>K .nrm (z8d a b c d e f g h i j l)) :=
 z05 (fun k=>z0c.Z27 N a b c d m o e f g h i j l k) (by kernel_rfl) (f73t27 N (K:=z16 (fun σ=>z7r N (z7j 889419) .n σ (z00 (some z5l) K)) (z00 (some z5l) K)) ..) (fx14 fun a b c d m o p e f g h i j l=>f73t28 N a b c d m o p e f g h i j l K) (by kernel_rfl)
def y0v:z0p:=.mk (some z5l) none f73p26 .n
theorem f73t25 N a b c d m o e f g h i j l (K:KT ρ):z7r N (z7j 234059) y0v (f73s6 a b c d m o e f g h i j l) (z00 (some z5l) K) =
  z0c.Z25 N a b c d m o e f g h i j l (fun a b c d e f g h i j l=>K .nrm (z8d a b c d e f g h i j l)) :=
 z0n (by kernel_rfl) (f73t26 N (K:=z1j 4 (z00 (some z5l) K)) ..) (by kernel_rfl)
def y0w:z0p:=.mk (some f73l6) none .n y0v
theorem f73t23 N a b c d m e f g h i j l (K:KT ρ):z7r N (z7j 102987) y0w (f73s5 a b c d m e f g h i j l) (z00 (some z5l) K) =
  z0c.Z23 N a b c d m e f g h i j l (fun a b c d e f g h i j l=>K .nrm (z8d a b c d e f g h i j l)) :=
 z05 (fun k=>z0c.Z24 N a b c d m e f g h i j l k) (by kernel_rfl) (f73t24 N (K:=z16 (fun σ=>z7r N (z7j 234059) y0v σ (z00 (some z5l) K)) (z00 (some z5l) K)) ..) (zvu fun a b c d m o e f g h i j l=>f73t25 N a b c d m o e f g h i j l K) (by kernel_rfl)
def f73p21:z0p:=.mk (some f73l5) none .n y0w
theorem f73t21 N a b c d e f g h i j l (K:KT ρ):z7r N (z7j 37451) f73p21 (z8d a b c d e f g h i j l) (z00 (some z5l) K) =
  z0c.Z21 N a b c d e f g h i j l (fun a b c d e f g h i j l=>K .nrm (z8d a b c d e f g h i j l)) :=
 z05 (fun k=>z0c.Z22 N a b c d e f g h i j l k) (by kernel_rfl) (f73t22 N (K:=z16 (fun σ=>z7r N (z7j 102987) y0w σ (z00 (some z5l) K)) (z00 (some z5l) K)) ..) (ztk fun a b c d m e f g h i j l=>f73t23 N a b c d m e f g h i j l K) (by kernel_rfl)
def f73p20:z0p:=.mk (some z5l) none f73p21 .n
theorem f73t20 N a b c d e f g h i j l (K:KT ρ):z7r N (z7j 21067) f73p20 (z8d a b c d e f g h i j l) (z00 (some z5l) K) =
  z0c.Z20 N a b c d e f g h i j l (fun a b c d e f g h i j l=>K .nrm (z8d a b c d e f g h i j l)) :=
 z0n (by kernel_rfl) (f73t21 N (K:=z1j 3 (z00 (some z5l) K)) ..) (by kernel_rfl)
theorem f73t29 N a b c d e f g h i j l (K:KT ρ):z7r N (z7j 29259) .n (z8d a b c d e f g h i j l) (z00 (some z5l) K) =
 z0c.Z29 N a b c d e f g h i j l (fun a b c d e f g h i j l=>K .nrm (z8d a b c d e f g h i j l)):=by kernel_rfl
def y0x:z0p:=.mk (some z5l) none f73p20 .n
theorem f73t19 N a b c d e f g h i j l (K:KT ρ):z7r N (z7j 12875) y0x (z8d a b c d e f g h i j l) (z00 (some z5l) K) =
  z0c.Z19 N a b c d e f g h i j l (fun a b c d e f g h i j l=>K .nrm (z8d a b c d e f g h i j l)) :=
 z05 (fun k=>z0c.Z20 N a b c d e f g h i j l k) (by kernel_rfl) (f73t20 N (K:=z16 (fun σ=>z7r N (z7j 29259) .n σ (z00 (some z5l) K)) (z00 (some z5l) K)) ..) (zk5 fun a b c d e f g h i j l=>f73t29 N a b c d e f g h i j l K) (by kernel_rfl)
def y0y:z0p:=.mk (some z5l) none .n y0x
theorem f73t17 N a b c l d e f g h i j (K:KT ρ):z7r N (z7j 4683) y0y (z8d a b c l d e f g h i j) (z00 (some z5l) K) =
  z0c.Z17 N a b c l d e f g h i j (fun a b c l d e f g h i j=>K .nrm (z8d a b c l d e f g h i j)) (fun a b c d e f g h i j=>K (.exit 2) (z7b a b c d e f g h i j)) :=
 z05 (fun k=>z0c.Z18 N a b c l d e f g h i j k (fun a b c d e f g h i j=>K (.exit 2) (z7b a b c d e f g h i j))) (by kernel_rfl) (f73t18 N (K:=z16 (fun σ=>z7r N (z7j 12875) y0x σ (z00 (some z5l) K)) (z00 (some z5l) K)) ..) (zk5 fun a b c l d e f g h i j=>f73t19 N a b c l d e f g h i j K) (by kernel_rfl)
def f73p16:z0p:=.mk none (some z5l) y0y .n
abbrev f73w16 {ρ:Type} (N M:Nat) (σ:St) (K:KT ρ):Option ρ:=z2r (fun σ K=>z7r N (z7j 4683) y0y σ K) z5l M σ K
theorem y0u {ρ:Type} (N:Nat) (K:KT ρ):∀ (M:Nat) (a:LI) (b c l d e:Int) (f:LI) (g h i j:Int),f73w16 N M (z8d a b c l d e f g h i j) K =
 z0c.Z16L N (fun a b c d e f g h i j=>K (.exit 2) (z7b a b c d e f g h i j)) M a b c l d e f g h i j
 | 0,_,_,_,_,_,_,_,_,_,_,_=>rfl
 | M + 1,a,b,c,l,d,e,f,g,h,i,j=>z12 (fun k=>z0c.Z17 N a b c l d e f g h i j k (fun a b c d e f g h i j=>K (.exit 2) (z7b a b c d e f g h i j))) (f73t17 N (K:=z16 (fun σ=>f73w16 N M σ K) K) ..) (zk5 fun a b c l d e f g h i j=>y0u N K M a b c l d e f g h i j) (by kernel_rfl)
theorem f73t16 N a b c l d e f g h i j (K:KT ρ):z7r N (z7j 2635) f73p16 (z8d a b c l d e f g h i j) (z00 (some z6u) K) =
  z0c.Z16 N a b c l d e f g h i j (fun a b c d e f g h i j=>K (.exit 2) (z7b a b c d e f g h i j)) :=
 z1d (by kernel_rfl) (y0u N (z00 (some z6u) K) N a b c l d e f g h i j) (by kernel_rfl)
def y0z:z0p:=.mk (some z6u) none f73p16 .n
theorem f73t15 N a b c l d e f g h i j (K:KT ρ):z7r N (z7j 1611) y0z (z8d a b c l d e f g h i j) (z00 (some z6u) K) =
  z0c.Z15 N a b c l d e f g h i j (fun a b c d e f g h i j=>K .nrm (z7b a b c d e f g h i j)) :=
 z0n (by kernel_rfl) (f73t16 N (K:=z1j 2 (z00 (some z6u) K)) ..) (by kernel_rfl)
def f73p13:z0p:=.mk (some z5l) none .n y0z
theorem f73t13 N a b c d e f g h i j (K:KT ρ):z7r N (z7j 587) f73p13 (z7b a b c d e f g h i j) (z00 (some z6u) K) =
  z0c.Z13 N a b c d e f g h i j (fun a b c d e f g h i j=>K .nrm (z7b a b c d e f g h i j)) :=
 z05 (fun k=>z0c.Z14 N a b c d e f g h i j k) (by kernel_rfl) (f73t14 N (K:=z16 (fun σ=>z7r N (z7j 1611) y0z σ (z00 (some z6u) K)) (z00 (some z6u) K)) ..) (zk5 fun a b c l d e f g h i j=>f73t15 N a b c l d e f g h i j K) (by kernel_rfl)
def f73p12:z0p:=.mk (some z6u) none f73p13 .n
theorem f73t12 N a b c d e f g h i j (K:KT ρ):z7r N (z7j 331) f73p12 (z7b a b c d e f g h i j) (z00 (some z6u) K) =
  z0c.Z12 N a b c d e f g h i j (fun a b c d e f g h i j=>K .nrm (z7b a b c d e f g h i j)) :=
 z0n (by kernel_rfl) (f73t13 N (K:=z1j 1 (z00 (some z6u) K)) ..) (by kernel_rfl)
theorem f73t30 N a b c d e f g h i j (K:KT ρ):z7r N (z7j 459) .n (z7b a b c d e f g h i j) (z00 (some z6u) K) =
 z0c.Z30 N a b c d e f g h i j (fun a b c d e f g h i j=>K .nrm (z7b a b c d e f g h i j)):=by kernel_rfl
def y10:z0p:=.mk (some z6u) none f73p12 .n
theorem f73t11 N a b c d e f g h i j (K:KT ρ):z7r N (z7j 203) y10 (z7b a b c d e f g h i j) (z00 (some z6u) K) =
  z0c.Z11 N a b c d e f g h i j (fun a b c d e f g h i j=>K .nrm (z7b a b c d e f g h i j)) :=
 z05 (fun k=>z0c.Z12 N a b c d e f g h i j k) (by kernel_rfl) (f73t12 N (K:=z16 (fun σ=>z7r N (z7j 459) .n σ (z00 (some z6u) K)) (z00 (some z6u) K)) ..) (zb5 fun a b c d e f g h i j=>f73t30 N a b c d e f g h i j K) (by kernel_rfl)
def f73p9:z0p:=.mk (some z6u) none .n y10
theorem f73t9 N a f g h i j b c d e (K:KT ρ):z7r N (z7j 75) f73p9 (z7b a f g h i j b c d e) (z00 (some z6u) K) =
  z0c.Z9 N a f g h i j b c d e (fun a f g h i j b c d e=>K .nrm (z7b a f g h i j b c d e)) (fun a b c d e=>K (.exit 0) (zm2 a b c d e)) :=
 z05 (fun k=>z0c.Z10 N a f g h i j b c d e k (fun a b c d e=>K (.exit 0) (zm2 a b c d e))) (by kernel_rfl) (f73t10 N (K:=z16 (fun σ=>z7r N (z7j 203) y10 σ (z00 (some z6u) K)) (z00 (some z6u) K)) ..) (zb5 fun a f g h i j b c d e=>f73t11 N a f g h i j b c d e K) (by kernel_rfl)
def f73p8:z0p:=.mk none (some z6u) f73p9 .n
abbrev f73w8 {ρ:Type} (N M:Nat) (σ:St) (K:KT ρ):Option ρ:=z2r (fun σ K=>z7r N (z7j 75) f73p9 σ K) z6u M σ K
theorem f73t8L {ρ:Type} (N:Nat) (K:KT ρ):∀ (M:Nat) (a:LI) (f g h i:Int) (j:LI) (b c d e:Int),f73w8 N M (z7b a f g h i j b c d e) K =
 z0c.Z8L N (fun a b c d e=>K (.exit 0) (zm2 a b c d e)) M a f g h i j b c d e
 | 0,_,_,_,_,_,_,_,_,_,_=>rfl
 | M + 1,a,f,g,h,i,j,b,c,d,e=>z12 (fun k=>z0c.Z9 N a f g h i j b c d e k (fun a b c d e=>K (.exit 0) (zm2 a b c d e))) (f73t9 N (K:=z16 (fun σ=>f73w8 N M σ K) K) ..) (zb5 fun a f g h i j b c d e=>f73t8L N K M a f g h i j b c d e) (by kernel_rfl)
theorem f73t8 N a f g h i j b c d e (K:KT ρ):z7r N (z7j 43) f73p8 (z7b a f g h i j b c d e) (z00 (some zj6) K) =
  z0c.Z8 N a f g h i j b c d e (fun a b c d e=>K (.exit 0) (zm2 a b c d e)) :=
 z1d (by kernel_rfl) (f73t8L N (z00 (some zj6) K) N a f g h i j b c d e) (by kernel_rfl)
def f73p7:z0p:=.mk (some zj6) none f73p8 .n
theorem f73t7 N a f g h i j b c d e (K:KT ρ):z7r N (z7j 27) f73p7 (z7b a f g h i j b c d e) (z00 (some zj6) K) =
  z0c.Z7 N a f g h i j b c d e (fun a b c d e=>K .nrm (zm2 a b c d e)) :=
 z0n (by kernel_rfl) (f73t8 N (K:=z1j 0 (z00 (some zj6) K)) ..) (by kernel_rfl)
def f73p5:z0p:=.mk (some z6u) none .n f73p7
theorem f73t5 N a f g h i b c d e (K:KT ρ):z7r N (z7j 11) f73p5 (f73s2 a f g h i b c d e) (z00 (some zj6) K) =
  z0c.Z5 N a f g h i b c d e (fun a b c d e=>K .nrm (zm2 a b c d e)) :=
 z05 (fun k=>z0c.Z6 N a f g h i b c d e k) (by kernel_rfl) (f73t6 N (K:=z16 (fun σ=>z7r N (z7j 27) f73p7 σ (z00 (some zj6) K)) (z00 (some zj6) K)) ..) (zb5 fun a f j g h i b c d e=>f73t7 N a f j g h i b c d e K) (by kernel_rfl)
theorem f73t31 N c a b d e (K:KT ρ):z7r N (z7j 15) .n (zm2 c a b d e) (z00 (some zfu) K) =
 z0c.Z31 N c a b d e (fun f a b=>K .ret (f73s9 f a b)):=by kernel_rfl
def f73p4:z0p:=.mk (some zj6) none f73p5 .n
theorem f73t4 N c f g h i a b d e (K:KT ρ):z7r N (z7j 7) f73p4 (f73s2 c f g h i a b d e) (z00 (some zfu) K) =
  z0c.Z4 N c f g h i a b d e (fun j a b=>K .ret (f73s9 j a b)) :=
 z05 (fun k=>z0c.Z5 N c f g h i a b d e k) (by kernel_rfl) (f73t5 N (K:=z16 (fun σ=>z7r N (z7j 15) .n σ (z00 (some zfu) K)) (z00 (some zfu) K)) ..) (fx5 fun c a b d e=>f73t31 N c a b d e K) (by kernel_rfl)
def f73p2:z0p:=.mk (some f73l2) none .n f73p4
theorem f73t2 N c d e f a b (K:KT ρ):z7r N (z7j 3) f73p2 (f73s1 c d e f a b) (z00 (some zfu) K) =
  z0c.Z2 N c d e f a b (fun g a b=>K .ret (f73s9 g a b)) :=
 z05 (fun k=>z0c.Z3 N c d e f a b k) (by kernel_rfl) (f73t3 N (K:=z16 (fun σ=>z7r N (z7j 7) f73p4 σ (z00 (some zfu) K)) (z00 (some zfu) K)) ..) (fx9 fun h c d e f a b i j=>f73t4 N h c d e f a b i j K) (by kernel_rfl)
def f73p0:z0p:=.mk (some f73l1) none .n f73p2
theorem f73t0 N b a (K:KT ρ):z7r N (z7j 1) f73p0 (f73s0 b a) (z00 (some zfu) K) =
  z0c.Z0 N b a (fun e c d=>K .ret (f73s9 e c d)) :=
 z05 (fun k=>z0c.Z1 N b a k) (by kernel_rfl) (f73t1 N (K:=z16 (fun σ=>z7r N (z7j 3) f73p2 σ (z00 (some zfu) K)) (z00 (some zfu) K)) ..) (fx6 fun a f g h c d=>f73t2 N a f g h c d K) (by kernel_rfl)
theorem f73m (N:Nat) (a:MT) (b:Int):z7r N (z7j 1) f73p0 (f73s0 a b) (z00 (some zfu) (z3o tab zoo Try.f73.results.toList)) = z0c.Z0 N a b (fun c d e=>some ((),((d,(e,c)),()))) :=
 (f73t0 N a b (z3o tab zoo Try.f73.results.toList)).trans (by kernel_rfl)
theorem f73ok (h:z0c.Spec):z0r Try.prog 73 e73 :=
 z0k (sig:=zoo) (c:=(z7j 1)) (pl:=f73p0) (je:=(some zfu)) (B:=f73B) Try.func73 (by kernel_rfl) (by kernel_rfl) (by kernel_rfl) z34 f73GOk (by kernel_rfl) (by kernel_rfl) (by kernel_rfl) (by kernel_rfl) fun X hb hp=>by
  obtain ⟨a,b,_⟩:=X
  obtain ⟨N,h⟩:=h a b hb.1 hp
  exact ⟨N,(f73m N a b).trans (h N (Nat.le_refl N))⟩
theorem e73ok:z0r Try.prog 73 e73:=f73ok z0c.ok
end Go.Fw
namespace Go.Fw
variable {ρ:Type}
open Go.Proofs
def zp6:Sig:=⟨[⟨.pair (.int .i64) (.pair (.int .i64) (.sl 3 (.int .i64))),true,false⟩,⟨.int .i64,false,false⟩],[⟨.pair (.int .i64) (.pair (.int .i64) (.sl 3 (.int .i64))),true,false⟩,⟨.bool,false,false⟩]⟩
def e28:z2v:=⟨zp6,none,fun X=>((),((z19.g X.1 X.2.1).1,((z19.g X.1 X.2.1).2,())))⟩
def f28G:Gm:=z4p (z4p (z4p (z4p z24 51 e51) 72 e72) 73 e73) 74 e74
theorem f28GOk:GOk Try.prog f28G:=((((GOk.nil).add e51ok (by kernel_rfl)).add e72ok (by kernel_rfl)).add e73ok (by kernel_rfl)).add e74ok (by kernel_rfl)
def f28lE:z09:=⟨[],[],[],[],[]⟩
def f28s0 (a:MT) (b:Int):St:=z2j zp6.ps (a,(b,()))
def f28s1 (a:LI) (b:Bool) (c d:Int):St:=z1k [(4,xb 4),(5,xB b)] [(4,(30,[yi c,yi d,.own 20000258]))] [(20000258,(⟨3,.int .i64,a,true,false⟩:Row))]
def f28l1:z09:=⟨[4,5],[4],[⟨⟨true,4,2⟩,30000000,3,.int .i64,true⟩],[],[(⟨true,4,2⟩,20000258)]⟩
def f28B:Nat→Option z09:=z1n [(1000000,f28l1)]
abbrev f28i {ρ:Type} (N:Nat) (c:Code) (p:z0p) (σ:St) (K:KT ρ):Option ρ:=z1t f28G tab f28B N c p σ K
def f28c (n:Nat):Code:=z2x 99 (z25 Try.f28) n
theorem f28t0 N a b (K:KT ρ):f28i N (f28c 1) .n (f28s0 a b) (z00 (some f28lE) K) =
 z19.Z0 N a b (fun c d e f=>K .ret (f28s1 c d e f)):=by kernel_rfl
theorem f28m (N:Nat) (a:MT) (b:Int):f28i N (f28c 1) .n (f28s0 a b) (z00 (some f28lE) (z3o tab zp6 Try.f28.results.toList)) = z19.Z0 N a b (fun c d e f=>some ((),((e,(f,c)),(d,())))) :=
 (f28t0 N a b (z3o tab zp6 Try.f28.results.toList)).trans (by kernel_rfl)
theorem f28ok (h:z19.Spec):z0r Try.prog 28 e28 :=
 z0k (sig:=zp6) (c:=(f28c 1)) (pl:=.n) (je:=(some f28lE)) (B:=f28B) Try.func28 (by kernel_rfl) (by kernel_rfl) (by kernel_rfl) z34 f28GOk (by kernel_rfl) (by kernel_rfl) (by kernel_rfl) (by kernel_rfl) fun X hb hp=>by
  obtain ⟨a,b,_⟩:=X
  obtain ⟨N,h⟩:=h a b hb.1
  exact ⟨N,(f28m N a b).trans (h N (Nat.le_refl N))⟩
theorem e28ok:z0r Try.prog 28 e28:=f28ok z19.ok
end Go.Fw
namespace Go.Fw
variable {ρ:Type}
open Go.Proofs
def f68k:zey:=⟨113,[(5,.int .u8)],.pair (.int .i64) (.int .i64)⟩
def y19:List PT:=[⟨.int .i64,false,false⟩]
def f68rs:List PT:=[⟨.sl 3 (.int .i64),false,false⟩]
def e68:z5q:=⟨f68k,y19,true,f68rs,(some fun X=>z0v.P X.1.1.1 X.1.2 X.2.1),fun X=>((z0v.g X.1.1.1 X.1.2 X.2.1).1,((),((z0v.g X.1.1.1 X.1.2 X.2.1).2,())))⟩
def f68G:Gm:=addV z24 69 e69
theorem f68GOk:GOk Try.prog f68G:=(GOk.nil).addV zs7 (by kernel_rfl)
def zfw:z09:=⟨[],[],[],[],[]⟩
def f68s0 (u0:Value) (b0:List Int) (r0:Int × Int) (a:Int):St:=z3v f68k y19 [u0] (((b0,()),r0),(a,()))
def f68s1 (u0:Value) (a:Int) (b:List Int) (c d:Int):St:=z1k [(0,xb 100000),(1,xi a),(100000,xb 100000)] [(100000,(113,[.bor u0 5 (.int .u8) b,yi c,yi d]))] []
def f68l1:z09:=⟨[0,1,100000],[100000],[],[],[]⟩
def f68s2 (u0:Value) (a:LI) (b:Int) (c:List Int) (d e:Int):St:=z1k [(0,xb 100000),(1,xi b),(5,xo 1000320),(100000,xb 100000)] [(100000,(113,[.bor u0 5 (.int .u8) c,yi d,yi e]))] [(1000320,(⟨3,.int .i64,a,true,false⟩:Row))]
def f68l2:z09:=⟨[0,1,5,100000],[100000],[],[],[(⟨false,5,0⟩,1000320)]⟩
def zw6 (u0:Value) (a:LI) (b c:Int) (d:List Int) (e f:Int):St:=z1k [(0,xb 100000),(1,xi b),(5,xo 1000320),(6,xi c),(100000,xb 100000)] [(100000,(113,[.bor u0 5 (.int .u8) d,yi e,yi f]))] [(1000320,(⟨3,.int .i64,a,true,false⟩:Row))]
def y1a:z09:=⟨[0,1,5,6,100000],[100000],[],[],[(⟨false,5,0⟩,1000320)]⟩
def zr4 (u0:Value) (a:LI) (b:List Int) (c d:Int):St:=z1k [(5,xo 1000320),(100000,xb 100000)] [(100000,(113,[.bor u0 5 (.int .u8) b,yi c,yi d]))] [(1000320,(⟨3,.int .i64,a,true,false⟩:Row))]
def zj8:z09:=⟨[5,100000],[100000],[],[],[(⟨false,5,0⟩,1000320)]⟩
def f68s5 (u0:Value) (a:LI) (b:List Int) (c d:Int):St:=z1k [(4,xo 1000256),(100000,xb 100000)] [(100000,(113,[.bor u0 5 (.int .u8) b,yi c,yi d]))] [(1000256,(⟨3,.int .i64,a,true,false⟩:Row))]
def f68l5:z09:=⟨[4,100000],[100000],[],[],[(⟨false,4,0⟩,1000256)]⟩
def f68B:Nat→Option z09:=z1n [(0,zj8),(1000000,f68l5)]
abbrev zos {ρ:Type} (N:Nat) (c:Code) (p:z0p) (σ:St) (K:KT ρ):Option ρ:=z1t f68G tab f68B N c p σ K
def zmr (n:Nat):Code:=z2x 99 (z25 Try.f68) n
theorem f68t1 N u0 b0 r0 a (K:KT ρ):zos N (zmr 2) .n (f68s0 u0 b0 r0 a) (z00 (some f68l1) K) =
 z0v.Z1 N b0 r0 a (fun a b c d=>K .nrm (f68s1 u0 a b c d)):=by kernel_rfl
theorem f68t3 N u0 a b c d (K:KT ρ):zos N (zmr 5) .n (f68s1 u0 a b c d) (z00 (some f68l2) K) =
 z0v.Z3 N a b c d (fun e a b c d=>K .nrm (f68s2 u0 e a b c d)):=by kernel_rfl
theorem f68t6 N u0 a b c d e (K:KT ρ):zos N (zmr 19) .n (f68s2 u0 a b c d e) (z00 (some y1a) K) =
 z0v.Z6 N a b c d e (fun a b f c d e=>K .nrm (zw6 u0 a b f c d e)):=by kernel_rfl
theorem f68t9 N u0 a e f b c d (K:KT ρ):zos N (zmr 75) .n (zw6 u0 a e f b c d) (z00 (some y1a) K) =
 z0v.Z9 N a e f b c d (fun a e f b c d=>K .nrm (zw6 u0 a e f b c d)) (fun a b c d=>K (.exit 0) (zr4 u0 a b c d)):=by kernel_rfl
def f68p8:z0p:=.mk none (some y1a) .n .n
abbrev f68w8 {ρ:Type} (N M:Nat) (σ:St) (K:KT ρ):Option ρ:=z2r (fun σ K=>zos N (zmr 75) .n σ K) y1a M σ K
theorem f68t8L {ρ:Type} (N:Nat) (u0:Value) (K:KT ρ):∀ (M:Nat) (a:LI) (e f:Int) (b:List Int) (c d:Int),f68w8 N M (zw6 u0 a e f b c d) K =
 z0v.Z8L N (fun a b c d=>K (.exit 0) (zr4 u0 a b c d)) M a e f b c d
 | 0,_,_,_,_,_,_=>rfl
 | M + 1,a,e,f,b,c,d=>z12 (fun k=>z0v.Z9 N a e f b c d k (fun a b c d=>K (.exit 0) (zr4 u0 a b c d))) (f68t9 N u0 (K:=z16 (fun σ=>f68w8 N M σ K) K) ..) (fx6 fun a e f b c d=>f68t8L N u0 K M a e f b c d) (by kernel_rfl)
theorem f68t8 N u0 a e f b c d (K:KT ρ):zos N (zmr 43) f68p8 (zw6 u0 a e f b c d) (z00 (some zj8) K) =
  z0v.Z8 N a e f b c d (fun a b c d=>K (.exit 0) (zr4 u0 a b c d)) :=
 z1d (by kernel_rfl) (f68t8L N u0 (z00 (some zj8) K) N a e f b c d) (by kernel_rfl)
def f68p7:z0p:=.mk (some zj8) none f68p8 .n
theorem f68t7 N u0 a e f b c d (K:KT ρ):zos N (zmr 27) f68p7 (zw6 u0 a e f b c d) (z00 (some zj8) K) =
  z0v.Z7 N a e f b c d (fun a b c d=>K .nrm (zr4 u0 a b c d)) :=
 z0n (by kernel_rfl) (f68t8 N u0 (K:=z1j 0 (z00 (some zj8) K)) ..) (by kernel_rfl)
def f68p5:z0p:=.mk (some y1a) none .n f68p7
theorem f68t5 N u0 a e b c d (K:KT ρ):zos N (zmr 11) f68p5 (f68s2 u0 a e b c d) (z00 (some zj8) K) =
  z0v.Z5 N a e b c d (fun a b c d=>K .nrm (zr4 u0 a b c d)) :=
 z05 (fun k=>z0v.Z6 N a e b c d k) (by kernel_rfl) (f68t6 N u0 (K:=z16 (fun σ=>zos N (zmr 27) f68p7 σ (z00 (some zj8) K)) (z00 (some zj8) K)) ..) (fx6 fun a e f b c d=>f68t7 N u0 a e f b c d K) (by kernel_rfl)
theorem f68t10 N u0 d a b c (K:KT ρ):zos N (zmr 15) .n (zr4 u0 d a b c) (z00 (some zfw) K) =
 z0v.Z10 N d a b c (fun e a b c=>K .ret (f68s5 u0 e a b c)):=by kernel_rfl
def f68p4:z0p:=.mk (some zj8) none f68p5 .n
theorem f68t4 N u0 d e a b c (K:KT ρ):zos N (zmr 7) f68p4 (f68s2 u0 d e a b c) (z00 (some zfw) K) =
  z0v.Z4 N d e a b c (fun f a b c=>K .ret (f68s5 u0 f a b c)) :=
 z05 (fun k=>z0v.Z5 N d e a b c k) (by kernel_rfl) (f68t5 N u0 (K:=z16 (fun σ=>zos N (zmr 15) .n σ (z00 (some zfw) K)) (z00 (some zfw) K)) ..) (fx4 fun d a b c=>f68t10 N u0 d a b c K) (by kernel_rfl)
def f68p2:z0p:=.mk (some f68l2) none .n f68p4
theorem f68t2 N u0 d a b c (K:KT ρ):zos N (zmr 3) f68p2 (f68s1 u0 d a b c) (z00 (some zfw) K) =
  z0v.Z2 N d a b c (fun e a b c=>K .ret (f68s5 u0 e a b c)) :=
 z05 (fun k=>z0v.Z3 N d a b c k) (by kernel_rfl) (f68t3 N u0 (K:=z16 (fun σ=>zos N (zmr 7) f68p4 σ (z00 (some zfw) K)) (z00 (some zfw) K)) ..) (fx5 fun f d a b c=>f68t4 N u0 f d a b c K) (by kernel_rfl)
def f68p0:z0p:=.mk (some f68l1) none .n f68p2
theorem f68t0 N u0 b0 r0 a (K:KT ρ):zos N (zmr 1) f68p0 (f68s0 u0 b0 r0 a) (z00 (some zfw) K) =
  z0v.Z0 N b0 r0 a (fun e b c d=>K .ret (f68s5 u0 e b c d)) :=
 z05 (fun k=>z0v.Z1 N b0 r0 a k) (by kernel_rfl) (f68t1 N u0 (K:=z16 (fun σ=>zos N (zmr 3) f68p2 σ (z00 (some zfw) K)) (z00 (some zfw) K)) ..) (fx4 fun a b c d=>f68t2 N u0 a b c d K) (by kernel_rfl)
theorem f68m (N:Nat) (u0:Value) (b0:List Int) (r0:Int × Int) (a:Int):zos N (zmr 1) f68p0 (f68s0 u0 b0 r0 a) (z00 (some zfw) (z7q tab f68k y19 true f68rs Try.f68.results.toList)) = z0v.Z0 N b0 r0 a (fun b e c d=>some ([u0],((c,d),((),(b,()))))) :=
 (f68t0 N u0 b0 r0 a (z7q tab f68k y19 true f68rs Try.f68.results.toList)).trans (by kernel_rfl)
theorem f68ok (h:z0v.Spec):z2u Try.prog 68 e68 :=
 z30 (k:=f68k) (ps:=y19) (rs:=f68rs) (back:=true) (c:=(zmr 1)) (pl:=f68p0) (je:=(some zfw)) (B:=f68B) Try.func68 (by kernel_rfl) (by kernel_rfl) (by kernel_rfl) z34 f68GOk (by kernel_rfl) (by kernel_rfl) (by kernel_rfl) fun lit X hl hb1 hb2 hp=>by
  obtain ⟨⟨⟨b0,_⟩,r0⟩,a,_⟩:=X
  match lit,hl with
  | [u0],_ =>
   obtain ⟨N,h⟩:=h [u0] b0 r0 a hb1.1 hp
   exact ⟨N,(f68m N u0 b0 r0 a).trans (h N (Nat.le_refl N))⟩
theorem e68ok:z2u Try.prog 68 e68:=f68ok z0v.ok
end Go.Fw
namespace Go.Fw
variable {ρ:Type}
open Go.Proofs
def zi6:Sig:=⟨[⟨.pair (.int .i64) (.pair (.int .i64) (.sl 3 (.int .i64))),true,false⟩,⟨.sl 3 (.int .i64),false,false⟩],[⟨.pair (.int .i64) (.pair (.int .i64) (.sl 3 (.int .i64))),true,false⟩]⟩
def e112:z2v:=⟨zi6,(some fun X=>z0j.P X.1 X.2.1),fun X=>((),((z0j.g X.1 X.2.1),()))⟩
def f112G:Gm:=z4p (z4p z24 80 e80) 102 e102
theorem f112GOk:GOk Try.prog f112G:=((GOk.nil).add y69 (by kernel_rfl)).add y6b (by kernel_rfl)
def z9t:z09:=⟨[],[],[],[],[]⟩
def y54 (a:MT) (b:LI):St:=z2j zi6.ps (a,(b,()))
def y53 (a:LI) (b d:Int) (e:LI) (f g:Int):St:=z1k [(1,.c (.sn 3 tI a none)),(2,xb 2),(4,xb 4)] [(2,(30,[yi b,yi d,.sn 3 tI e none])),(4,(30,[yi f,yi g,.nil]))] []
def f112l1:z09:=⟨[1,2,4],[2,4],[],[],[]⟩
def zuf (a b:LI) (d e:Int) (f:LI) (g h i j:Int):St:=z1k [(1,.c (.sn 3 tI b none)),(2,xb 2),(4,xb 4),(5,xb 5)] [(2,(30,[yi d,yi e,.sn 3 tI f none])),(4,(30,[yi g,yi h,.nil])),(5,(30,[yi i,yi j,.own 20000322]))] [(20000322,(⟨3,.int .i64,a,true,false⟩:Row))]
def f112l2:z09:=⟨[1,2,4,5],[2,4,5],[],[],[(⟨true,5,2⟩,20000322)]⟩
def z4o (a b:LI) (d e f:Int) (g:LI) (h i j l:Int):St:=z1k [(1,.c (.sn 3 tI b none)),(2,xb 2),(4,xb 4),(5,xb 5),(6,xi d)] [(2,(30,[yi e,yi f,.sn 3 tI g none])),(4,(30,[yi h,yi i,.nil])),(5,(30,[yi j,yi l,.own 20000322]))] [(20000322,(⟨3,.int .i64,a,true,false⟩:Row))]
def z3n:z09:=⟨[1,2,4,5,6],[2,4,5],[],[],[(⟨true,5,2⟩,20000322)]⟩
def zkn (a b:LI) (d e f g:Int) (h:LI) (i j l m:Int):St:=z1k [(1,.c (.sn 3 tI b none)),(2,xb 2),(4,xb 4),(5,xb 5),(6,xi d),(7,xi e)] [(2,(30,[yi f,yi g,.sn 3 tI h none])),(4,(30,[yi i,yi j,.nil])),(5,(30,[yi l,yi m,.own 20000322]))] [(20000322,(⟨3,.int .i64,a,true,false⟩:Row))]
def zug:z09:=⟨[1,2,4,5,6,7],[2,4,5],[],[],[(⟨true,5,2⟩,20000322)]⟩
def zkm (a b:LI) (d e f g h:Int) (i:LI) (j l m o:Int):St:=z1k [(1,.c (.sn 3 tI b none)),(2,xb 2),(4,xb 4),(5,xb 5),(6,xi d),(7,xi e),(8,xi f)] [(2,(30,[yi g,yi h,.sn 3 tI i none])),(4,(30,[yi j,yi l,.nil])),(5,(30,[yi m,yi o,.own 20000322]))] [(20000322,(⟨3,.int .i64,a,true,false⟩:Row))]
def zpn:z09:=⟨[1,2,4,5,6,7,8],[2,4,5],[],[],[(⟨true,5,2⟩,20000322)]⟩
def ze0 (a:LI) (b c d e:Int):St:=z1k [(4,xb 4),(5,xb 5)] [(4,(30,[yi b,yi c,.nil])),(5,(30,[yi d,yi e,.own 20000322]))] [(20000322,(⟨3,.int .i64,a,true,false⟩:Row))]
def zbu:z09:=⟨[4,5],[4,5],[],[],[(⟨true,5,2⟩,20000322)]⟩
def zue (a:LI) (b c:Int):St:=z1k [(4,xb 4)] [(4,(30,[yi b,yi c,.own 20000258]))] [(20000258,(⟨3,.int .i64,a,true,false⟩:Row))]
def f112l7:z09:=⟨[4],[4],[],[],[(⟨true,4,2⟩,20000258)]⟩
def f112B:Nat→Option z09:=z1n [(2,z3n),(1,z3n),(0,zbu),(1000000,f112l7)]
abbrev z4s {ρ:Type} (N:Nat) (c:Code) (p:z0p) (σ:St) (K:KT ρ):Option ρ:=z1t f112G tab f112B N c p σ K
def z4l (n:Nat):Code:=z2x 99 (z25 Try.f112) n
theorem f112t1 N b a (K:KT ρ):z4s N (z4l 2) .n (y54 b a) (z00 (some f112l1) K) =
 z0j.Z1 N b a (fun a c d e f g=>K .nrm (y53 a c d e f g)):=by kernel_rfl
theorem f112t3 N a b c d e f (K:KT ρ):z4s N (z4l 5) .n (y53 a b c d e f) (z00 (some f112l2) K) =
 z0j.Z3 N a b c d e f (fun g a b c d e f h i=>K .nrm (zuf g a b c d e f h i)):=by kernel_rfl
theorem f112t6 N a b c d e f g h i (K:KT ρ):z4s N (z4l 19) .n (zuf a b c d e f g h i) (z00 (some z3n) K) =
 z0j.Z6 N a b c d e f g h i (fun a b j c d e f g h i=>K .nrm (z4o a b j c d e f g h i)):=by kernel_rfl
theorem f112t10 N a f g h i j b c d e (K:KT ρ):z4s N (z4l 139) .n (z4o a f g h i j b c d e) (z00 (some z3n) K) =
 z0j.Z10 N a f g h i j b c d e (fun a f g h i j b c d e=>K .nrm (z4o a f g h i j b c d e)) (fun a b c d e=>K (.exit 0) (ze0 a b c d e)):=by kernel_rfl
theorem f112t14 N a b c d e f g h i j (K:KT ρ):z4s N (z4l 1099) .n (z4o a b c d e f g h i j) (z00 (some zug) K) =
 z0j.Z14 N a b c d e f g h i j (fun a b c l d e f g h i j=>K .nrm (zkn a b c l d e f g h i j)):=by kernel_rfl
theorem f112t16 N a b c d e f g h i j l (K:KT ρ):z4s N (z4l 2635) .n (zkn a b c d e f g h i j l) (z00 (some zug) K) =
 z0j.Z16 N a b c d e f g h i j l (fun a b c d e f g h i j l=>K .nrm (zkn a b c d e f g h i j l)):=by kernel_rfl
theorem f112t18 N a b c d e f g h i j l (K:KT ρ):z4s N (z4l 5707) .n (zkn a b c d e f g h i j l) (z00 (some zpn) K) =
 z0j.Z18 N a b c d e f g h i j l (fun a b c d m e f g h i j l=>K .nrm (zkm a b c d m e f g h i j l)):=by kernel_rfl
theorem f112t21 N a b c l m d e f g h i j (K:KT ρ):z4s N (z4l 20043) .n (zkm a b c l m d e f g h i j) (z00 (some zpn) K) =
 z0j.Z21 N a b c l m d e f g h i j (fun a b c l m d e f g h i j=>K .nrm (zkm a b c l m d e f g h i j)) (fun a b c d e f g h i j=>K (.exit 2) (z4o a b c d e f g h i j)):=by kernel_rfl
def y58:z0p:=.mk none (some zpn) .n .n
abbrev y51 {ρ:Type} (N M:Nat) (σ:St) (K:KT ρ):Option ρ:=z2r (fun σ K=>z4s N (z4l 20043) .n σ K) zpn M σ K
theorem zud {ρ:Type} (N:Nat) (K:KT ρ):∀ (M:Nat) (a b:LI) (c l m d e:Int) (f:LI) (g h i j:Int),y51 N M (zkm a b c l m d e f g h i j) K =
 z0j.Z20L N (fun a b c d e f g h i j=>K (.exit 2) (z4o a b c d e f g h i j)) M a b c l m d e f g h i j
 | 0,_,_,_,_,_,_,_,_,_,_,_,_=>rfl
 | M + 1,a,b,c,l,m,d,e,f,g,h,i,j=>z12 (fun k=>z0j.Z21 N a b c l m d e f g h i j k (fun a b c d e f g h i j=>K (.exit 2) (z4o a b c d e f g h i j))) (f112t21 N (K:=z16 (fun σ=>y51 N M σ K) K) ..) (ztk fun a b c l m d e f g h i j=>zud N K M a b c l m d e f g h i j) (by kernel_rfl)
theorem f112t20 N a b c l m d e f g h i j (K:KT ρ):z4s N (z4l 11851) y58 (zkm a b c l m d e f g h i j) (z00 (some z3n) K) =
  z0j.Z20 N a b c l m d e f g h i j (fun a b c d e f g h i j=>K (.exit 2) (z4o a b c d e f g h i j)) :=
 z1d (by kernel_rfl) (zud N (z00 (some z3n) K) N a b c l m d e f g h i j) (by kernel_rfl)
def zrx:z0p:=.mk (some z3n) none y58 .n
theorem f112t19 N a b c l m d e f g h i j (K:KT ρ):z4s N (z4l 7755) zrx (zkm a b c l m d e f g h i j) (z00 (some z3n) K) =
  z0j.Z19 N a b c l m d e f g h i j (fun a b c d e f g h i j=>K .nrm (z4o a b c d e f g h i j)) :=
 z0n (by kernel_rfl) (f112t20 N (K:=z1j 2 (z00 (some z3n) K)) ..) (by kernel_rfl)
def zry:z0p:=.mk (some zpn) none .n zrx
theorem f112t17 N a b c l d e f g h i j (K:KT ρ):z4s N (z4l 3659) zry (zkn a b c l d e f g h i j) (z00 (some z3n) K) =
  z0j.Z17 N a b c l d e f g h i j (fun a b c d e f g h i j=>K .nrm (z4o a b c d e f g h i j)) :=
 z05 (fun k=>z0j.Z18 N a b c l d e f g h i j k) (by kernel_rfl) (f112t18 N (K:=z16 (fun σ=>z4s N (z4l 7755) zrx σ (z00 (some z3n) K)) (z00 (some z3n) K)) ..) (ztk fun a b c l m d e f g h i j=>f112t19 N a b c l m d e f g h i j K) (by kernel_rfl)
def zrz:z0p:=.mk (some zug) none .n zry
theorem f112t15 N a b c l d e f g h i j (K:KT ρ):z4s N (z4l 1611) zrz (zkn a b c l d e f g h i j) (z00 (some z3n) K) =
  z0j.Z15 N a b c l d e f g h i j (fun a b c d e f g h i j=>K .nrm (z4o a b c d e f g h i j)) :=
 z05 (fun k=>z0j.Z16 N a b c l d e f g h i j k) (by kernel_rfl) (f112t16 N (K:=z16 (fun σ=>z4s N (z4l 3659) zry σ (z00 (some z3n) K)) (z00 (some z3n) K)) ..) (zk5 fun a b c l d e f g h i j=>f112t17 N a b c l d e f g h i j K) (by kernel_rfl)
def y5a:z0p:=.mk (some zug) none .n zrz
theorem f112t13 N a b c d e f g h i j (K:KT ρ):z4s N (z4l 587) y5a (z4o a b c d e f g h i j) (z00 (some z3n) K) =
  z0j.Z13 N a b c d e f g h i j (fun a b c d e f g h i j=>K .nrm (z4o a b c d e f g h i j)) :=
 z05 (fun k=>z0j.Z14 N a b c d e f g h i j k) (by kernel_rfl) (f112t14 N (K:=z16 (fun σ=>z4s N (z4l 1611) zrz σ (z00 (some z3n) K)) (z00 (some z3n) K)) ..) (zk5 fun a b c l d e f g h i j=>f112t15 N a b c l d e f g h i j K) (by kernel_rfl)
def y5b:z0p:=.mk (some z3n) none y5a .n
theorem f112t12 N a b c d e f g h i j (K:KT ρ):z4s N (z4l 331) y5b (z4o a b c d e f g h i j) (z00 (some z3n) K) =
  z0j.Z12 N a b c d e f g h i j (fun a b c d e f g h i j=>K .nrm (z4o a b c d e f g h i j)) :=
 z0n (by kernel_rfl) (f112t13 N (K:=z1j 1 (z00 (some z3n) K)) ..) (by kernel_rfl)
theorem f112t22 N a b c d e f g h i j (K:KT ρ):z4s N (z4l 459) .n (z4o a b c d e f g h i j) (z00 (some z3n) K) =
 z0j.Z22 N a b c d e f g h i j (fun a b c d e f g h i j=>K .nrm (z4o a b c d e f g h i j)):=by kernel_rfl
def zs0:z0p:=.mk (some z3n) none y5b .n
theorem f112t11 N a b c d e f g h i j (K:KT ρ):z4s N (z4l 203) zs0 (z4o a b c d e f g h i j) (z00 (some z3n) K) =
  z0j.Z11 N a b c d e f g h i j (fun a b c d e f g h i j=>K .nrm (z4o a b c d e f g h i j)) :=
 z05 (fun k=>z0j.Z12 N a b c d e f g h i j k) (by kernel_rfl) (f112t12 N (K:=z16 (fun σ=>z4s N (z4l 459) .n σ (z00 (some z3n) K)) (z00 (some z3n) K)) ..) (zb5 fun a b c d e f g h i j=>f112t22 N a b c d e f g h i j K) (by kernel_rfl)
def y55:z0p:=.mk (some z3n) none .n zs0
theorem f112t9 N a f g h i j b c d e (K:KT ρ):z4s N (z4l 75) y55 (z4o a f g h i j b c d e) (z00 (some z3n) K) =
  z0j.Z9 N a f g h i j b c d e (fun a f g h i j b c d e=>K .nrm (z4o a f g h i j b c d e)) (fun a b c d e=>K (.exit 0) (ze0 a b c d e)) :=
 z05 (fun k=>z0j.Z10 N a f g h i j b c d e k (fun a b c d e=>K (.exit 0) (ze0 a b c d e))) (by kernel_rfl) (f112t10 N (K:=z16 (fun σ=>z4s N (z4l 203) zs0 σ (z00 (some z3n) K)) (z00 (some z3n) K)) ..) (zb5 fun a f g h i j b c d e=>f112t11 N a f g h i j b c d e K) (by kernel_rfl)
def f112p8:z0p:=.mk none (some z3n) y55 .n
abbrev f112w8 {ρ:Type} (N M:Nat) (σ:St) (K:KT ρ):Option ρ:=z2r (fun σ K=>z4s N (z4l 75) y55 σ K) z3n M σ K
theorem y52 {ρ:Type} (N:Nat) (K:KT ρ):∀ (M:Nat) (a f:LI) (g h i:Int) (j:LI) (b c d e:Int),f112w8 N M (z4o a f g h i j b c d e) K =
 z0j.Z8L N (fun a b c d e=>K (.exit 0) (ze0 a b c d e)) M a f g h i j b c d e
 | 0,_,_,_,_,_,_,_,_,_,_=>rfl
 | M + 1,a,f,g,h,i,j,b,c,d,e=>z12 (fun k=>z0j.Z9 N a f g h i j b c d e k (fun a b c d e=>K (.exit 0) (ze0 a b c d e))) (f112t9 N (K:=z16 (fun σ=>f112w8 N M σ K) K) ..) (zb5 fun a f g h i j b c d e=>y52 N K M a f g h i j b c d e) (by kernel_rfl)
theorem f112t8 N a f g h i j b c d e (K:KT ρ):z4s N (z4l 43) f112p8 (z4o a f g h i j b c d e) (z00 (some zbu) K) =
  z0j.Z8 N a f g h i j b c d e (fun a b c d e=>K (.exit 0) (ze0 a b c d e)) :=
 z1d (by kernel_rfl) (y52 N (z00 (some zbu) K) N a f g h i j b c d e) (by kernel_rfl)
def y56:z0p:=.mk (some zbu) none f112p8 .n
theorem f112t7 N a f g h i j b c d e (K:KT ρ):z4s N (z4l 27) y56 (z4o a f g h i j b c d e) (z00 (some zbu) K) =
  z0j.Z7 N a f g h i j b c d e (fun a b c d e=>K .nrm (ze0 a b c d e)) :=
 z0n (by kernel_rfl) (f112t8 N (K:=z1j 0 (z00 (some zbu) K)) ..) (by kernel_rfl)
def f112p5:z0p:=.mk (some z3n) none .n y56
theorem f112t5 N a f g h i b c d e (K:KT ρ):z4s N (z4l 11) f112p5 (zuf a f g h i b c d e) (z00 (some zbu) K) =
  z0j.Z5 N a f g h i b c d e (fun a b c d e=>K .nrm (ze0 a b c d e)) :=
 z05 (fun k=>z0j.Z6 N a f g h i b c d e k) (by kernel_rfl) (f112t6 N (K:=z16 (fun σ=>z4s N (z4l 27) y56 σ (z00 (some zbu) K)) (z00 (some zbu) K)) ..) (zb5 fun a f j g h i b c d e=>f112t7 N a f j g h i b c d e K) (by kernel_rfl)
theorem f112t23 N c a b d e (K:KT ρ):z4s N (z4l 15) .n (ze0 c a b d e) (z00 (some z9t) K) =
 z0j.Z23 N c a b d e (fun f a b=>K .ret (zue f a b)):=by kernel_rfl
def y57:z0p:=.mk (some zbu) none f112p5 .n
theorem f112t4 N c f g h i a b d e (K:KT ρ):z4s N (z4l 7) y57 (zuf c f g h i a b d e) (z00 (some z9t) K) =
  z0j.Z4 N c f g h i a b d e (fun j a b=>K .ret (zue j a b)) :=
 z05 (fun k=>z0j.Z5 N c f g h i a b d e k) (by kernel_rfl) (f112t5 N (K:=z16 (fun σ=>z4s N (z4l 15) .n σ (z00 (some z9t) K)) (z00 (some z9t) K)) ..) (fx5 fun c a b d e=>f112t23 N c a b d e K) (by kernel_rfl)
def y59:z0p:=.mk (some f112l2) none .n y57
theorem f112t2 N c d e f a b (K:KT ρ):z4s N (z4l 3) y59 (y53 c d e f a b) (z00 (some z9t) K) =
  z0j.Z2 N c d e f a b (fun g a b=>K .ret (zue g a b)) :=
 z05 (fun k=>z0j.Z3 N c d e f a b k) (by kernel_rfl) (f112t3 N (K:=z16 (fun σ=>z4s N (z4l 7) y57 σ (z00 (some z9t) K)) (z00 (some z9t) K)) ..) (fx9 fun h c d e f a b i j=>f112t4 N h c d e f a b i j K) (by kernel_rfl)
def y5c:z0p:=.mk (some f112l1) none .n y59
theorem f112t0 N b a (K:KT ρ):z4s N (z4l 1) y5c (y54 b a) (z00 (some z9t) K) =
  z0j.Z0 N b a (fun e c d=>K .ret (zue e c d)) :=
 z05 (fun k=>z0j.Z1 N b a k) (by kernel_rfl) (f112t1 N (K:=z16 (fun σ=>z4s N (z4l 3) y59 σ (z00 (some z9t) K)) (z00 (some z9t) K)) ..) (fx6 fun a f g h c d=>f112t2 N a f g h c d K) (by kernel_rfl)
theorem f112m (N:Nat) (a:MT) (b:LI):z4s N (z4l 1) y5c (y54 a b) (z00 (some z9t) (z3o tab zi6 Try.f112.results.toList)) = z0j.Z0 N a b (fun c d e=>some ((),((d,(e,c)),()))) :=
 (f112t0 N a b (z3o tab zi6 Try.f112.results.toList)).trans (by kernel_rfl)
theorem f112ok (h:z0j.Spec):z0r Try.prog 112 e112 :=
 z0k (sig:=zi6) (c:=(z4l 1)) (pl:=y5c) (je:=(some z9t)) (B:=f112B) Try.func112 (by kernel_rfl) (by kernel_rfl) (by kernel_rfl) z34 f112GOk (by kernel_rfl) (by kernel_rfl) (by kernel_rfl) (by kernel_rfl) fun X hb hp=>by
  obtain ⟨a,b,_⟩:=X
  obtain ⟨N,h⟩:=h a b hb.1 hb.2.1 hp
  exact ⟨N,(f112m N a b).trans (h N (Nat.le_refl N))⟩
theorem e112ok:z0r Try.prog 112 e112:=f112ok z0j.ok
end Go.Fw
namespace Go.Fw
variable {ρ:Type}
open Go.Proofs
def y3c:zey:=⟨113,[(5,.int .u8)],.pair (.int .i64) (.int .i64)⟩
def zpe:List PT:=[⟨.pair (.int .i64) (.pair (.int .i64) (.sl 3 (.int .i64))),true,false⟩]
def zu0:List PT:=[⟨.pair (.int .i64) (.pair (.int .i64) (.sl 3 (.int .i64))),true,false⟩]
def e127:z5q:=⟨y3c,zpe,true,zu0,(some fun X=>z0u.P X.1.1.1 X.1.2 X.2.1),fun X=>((z0u.g X.1.1.1 X.1.2 X.2.1).1,((),((z0u.g X.1.1.1 X.1.2 X.2.1).2,())))⟩
def f127G:Gm:=z4p (addV (addV (z4p z24 28 e28) 68 e68) 69 e69) 112 e112
theorem f127GOk:GOk Try.prog f127G:=((((GOk.nil).add e28ok (by kernel_rfl)).addV e68ok (by kernel_rfl)).addV zs7 (by kernel_rfl)).add e112ok (by kernel_rfl)
def z9p:z09:=⟨[],[],[],[],[]⟩
def y36 (u0:Value) (b0:List Int) (r0:Int × Int) (a:MT):St:=z3v y3c zpe [u0] (((b0,()),r0),(a,()))
def zbr (u0:Value) (a:List Int) (b c d e:Int) (f:LI) (g h:Int):St:=z1k [(0,xb 100000),(3,xb 3),(4,xb 4),(100000,xb 100000)] [(100000,(113,[.bor u0 5 (.int .u8) a,yi b,yi c])),(3,(30,[yi d,yi e,.sn 3 tI f none])),(4,(30,[yi g,yi h,.nil]))] []
def z9q:z09:=⟨[0,3,4,100000],[100000,3,4],[],[],[]⟩
def ztz (u0:Value) (a:Int) (b:List Int) (c d e f:Int) (g:LI) (h i:Int):St:=z1k [(0,xb 100000),(3,xb 3),(4,xb 4),(5,xi a),(100000,xb 100000)] [(100000,(113,[.bor u0 5 (.int .u8) b,yi c,yi d])),(3,(30,[yi e,yi f,.sn 3 tI g none])),(4,(30,[yi h,yi i,.nil]))] []
def f127l2:z09:=⟨[0,3,4,5,100000],[100000,3,4],[],[],[]⟩
def y35 (u0:Value) (a b:Int) (c:List Int) (d e f g:Int) (h:LI) (i j:Int):St:=z1k [(0,xb 100000),(3,xb 3),(4,xb 4),(5,xi a),(6,xi b),(100000,xb 100000)] [(100000,(113,[.bor u0 5 (.int .u8) c,yi d,yi e])),(3,(30,[yi f,yi g,.sn 3 tI h none])),(4,(30,[yi i,yi j,.nil]))] []
def f127l3:z09:=⟨[0,3,4,5,6,100000],[100000,3,4],[],[],[]⟩
def y34 (u0:Value) (a b:Int) (c:List Int) (d e f g:Int) (h:LI) (i j:Int):St:=z1k [(0,xb 100000),(3,xb 3),(4,xb 4),(5,xi a),(6,xi b),(100000,xb 100000)] [(100000,(113,[.bor u0 5 (.int .u8) c,yi d,yi e])),(3,(30,[yi f,yi g,.sn 3 tI h none])),(4,(30,[yi i,yi j,.nil]))] []
def y3b:z09:=⟨[0,3,4,5,6,100000],[100000,3,4],[],[(⟨true,3,2⟩,3,.int .i64)],[]⟩
def zty (u0:Value) (a:LI) (b c:Int) (d:List Int) (e f:Int):St:=z1k [(4,xb 4),(100000,xb 100000)] [(4,(30,[yi b,yi c,.own 20000258])),(100000,(113,[.bor u0 5 (.int .u8) d,yi e,yi f]))] [(20000258,(⟨3,.int .i64,a,true,false⟩:Row))]
def f127l5:z09:=⟨[4,100000],[4,100000],[],[],[(⟨true,4,2⟩,20000258)]⟩
def f127B:Nat→Option z09:=z1n [(0,z9q),(1000000,f127l5)]
abbrev zag {ρ:Type} (N:Nat) (c:Code) (p:z0p) (σ:St) (K:KT ρ):Option ρ:=z1t f127G tab f127B N c p σ K
def za1 (n:Nat):Code:=z2x 99 (z25 Try.f127) n
theorem f127t1 N u0 b0 r0 a (K:KT ρ):zag N (za1 2) .n (y36 u0 b0 r0 a) (z00 (some z9q) K) =
 z0u.Z1 N b0 r0 a (fun b c d e f g h i=>K .nrm (zbr u0 b c d e f g h i)):=by kernel_rfl
theorem f127t3 N u0 a b c d e f g h (K:KT ρ):zag N (za1 5) .n (zbr u0 a b c d e f g h) (z00 (some f127l2) K) =
 z0u.Z3 N a b c d e f g h (fun i a b c d e f g h=>K .nrm (ztz u0 i a b c d e f g h)):=by kernel_rfl
theorem f127t6 N u0 a b c d e f g h i (K:KT ρ):zag N (za1 19) .n (ztz u0 a b c d e f g h i) (z00 (some f127l3) K) =
 z0u.Z6 N a b c d e f g h i (fun a j b c d e f g h i=>K .nrm (y35 u0 a j b c d e f g h i)):=by kernel_rfl
theorem f127t9 N u0 i j a b c d e f g h (K:KT ρ):zag N (za1 75) .n (y34 u0 i j a b c d e f g h) (z00 (some y3b) K) =
 z0u.Z9 N i j a b c d e f g h (fun i j a b c d e f g h=>K .nrm (y34 u0 i j a b c d e f g h)) (fun a b c d e f g h=>K (.exit 0) (zbr u0 a b c d e f g h)):=by kernel_rfl
def f127p8:z0p:=.mk none (some y3b) .n .n
abbrev f127w8 {ρ:Type} (N M:Nat) (σ:St) (K:KT ρ):Option ρ:=z2r (fun σ K=>zag N (za1 75) .n σ K) y3b M σ K
theorem y33 {ρ:Type} (N:Nat) (u0:Value) (K:KT ρ):∀ (M:Nat) (i j:Int) (a:List Int) (b c d e:Int) (f:LI) (g h:Int),f127w8 N M (y34 u0 i j a b c d e f g h) K =
 z0u.Z8L N (fun a b c d e f g h=>K (.exit 0) (zbr u0 a b c d e f g h)) M i j a b c d e f g h
 | 0,_,_,_,_,_,_,_,_,_,_=>rfl
 | M + 1,i,j,a,b,c,d,e,f,g,h=>z12 (fun k=>z0u.Z9 N i j a b c d e f g h k (fun a b c d e f g h=>K (.exit 0) (zbr u0 a b c d e f g h))) (f127t9 N u0 (K:=z16 (fun σ=>f127w8 N M σ K) K) ..) (zb5 fun i j a b c d e f g h=>y33 N u0 K M i j a b c d e f g h) (by kernel_rfl)
theorem f127t8 N u0 i j a b c d e f g h (K:KT ρ):zag N (za1 43) f127p8 (y35 u0 i j a b c d e f g h) (z00 (some z9q) K) =
  z0u.Z8 N i j a b c d e f g h (fun a b c d e f g h=>K (.exit 0) (zbr u0 a b c d e f g h)) :=
 z1d (by kernel_rfl) (y33 N u0 (z00 (some z9q) K) N i j a b c d e f g h) (by kernel_rfl)
def y37:z0p:=.mk (some z9q) none f127p8 .n
theorem f127t7 N u0 i j a b c d e f g h (K:KT ρ):zag N (za1 27) y37 (y35 u0 i j a b c d e f g h) (z00 (some z9q) K) =
  z0u.Z7 N i j a b c d e f g h (fun a b c d e f g h=>K .nrm (zbr u0 a b c d e f g h)) :=
 z0n (by kernel_rfl) (f127t8 N u0 (K:=z1j 0 (z00 (some z9q) K)) ..) (by kernel_rfl)
def f127p5:z0p:=.mk (some f127l3) none .n y37
theorem f127t5 N u0 i a b c d e f g h (K:KT ρ):zag N (za1 11) f127p5 (ztz u0 i a b c d e f g h) (z00 (some z9q) K) =
  z0u.Z5 N i a b c d e f g h (fun a b c d e f g h=>K .nrm (zbr u0 a b c d e f g h)) :=
 z05 (fun k=>z0u.Z6 N i a b c d e f g h k) (by kernel_rfl) (f127t6 N u0 (K:=z16 (fun σ=>zag N (za1 27) y37 σ (z00 (some z9q) K)) (z00 (some z9q) K)) ..) (zb5 fun i j a b c d e f g h=>f127t7 N u0 i j a b c d e f g h K) (by kernel_rfl)
theorem f127t10 N u0 a b c f g h d e (K:KT ρ):zag N (za1 15) .n (zbr u0 a b c f g h d e) (z00 (some z9p) K) =
 z0u.Z10 N a b c f g h d e (fun i d e a b c=>K .ret (zty u0 i d e a b c)):=by kernel_rfl
def y38:z0p:=.mk (some z9q) none f127p5 .n
theorem f127t4 N u0 i a b c f g h d e (K:KT ρ):zag N (za1 7) y38 (ztz u0 i a b c f g h d e) (z00 (some z9p) K) =
  z0u.Z4 N i a b c f g h d e (fun j d e a b c=>K .ret (zty u0 j d e a b c)) :=
 z05 (fun k=>z0u.Z5 N i a b c f g h d e k) (by kernel_rfl) (f127t5 N u0 (K:=z16 (fun σ=>zag N (za1 15) .n σ (z00 (some z9p) K)) (z00 (some z9p) K)) ..) (fx8 fun a b c f g h d e=>f127t10 N u0 a b c f g h d e K) (by kernel_rfl)
def y39:z0p:=.mk (some f127l2) none .n y38
theorem f127t2 N u0 a b c f g h d e (K:KT ρ):zag N (za1 3) y39 (zbr u0 a b c f g h d e) (z00 (some z9p) K) =
  z0u.Z2 N a b c f g h d e (fun i d e a b c=>K .ret (zty u0 i d e a b c)) :=
 z05 (fun k=>z0u.Z3 N a b c f g h d e k) (by kernel_rfl) (f127t3 N u0 (K:=z16 (fun σ=>zag N (za1 7) y38 σ (z00 (some z9p) K)) (z00 (some z9p) K)) ..) (fx9 fun j a b c f g h d e=>f127t4 N u0 j a b c f g h d e K) (by kernel_rfl)
def y3a:z0p:=.mk (some z9q) none .n y39
theorem f127t0 N u0 b0 r0 a (K:KT ρ):zag N (za1 1) y3a (y36 u0 b0 r0 a) (z00 (some z9p) K) =
  z0u.Z0 N b0 r0 a (fun g b c d e f=>K .ret (zty u0 g b c d e f)) :=
 z05 (fun k=>z0u.Z1 N b0 r0 a k) (by kernel_rfl) (f127t1 N u0 (K:=z16 (fun σ=>zag N (za1 3) y39 σ (z00 (some z9p) K)) (z00 (some z9p) K)) ..) (fx8 fun d e f h i j b c=>f127t2 N u0 d e f h i j b c K) (by kernel_rfl)
theorem f127m (N:Nat) (u0:Value) (b0:List Int) (r0:Int × Int) (a:MT):zag N (za1 1) y3a (y36 u0 b0 r0 a) (z00 (some z9p) (z7q tab y3c zpe true zu0 Try.f127.results.toList)) = z0u.Z0 N b0 r0 a (fun b c d g e f=>some ([u0],((e,f),((),((c,(d,b)),()))))) :=
 (f127t0 N u0 b0 r0 a (z7q tab y3c zpe true zu0 Try.f127.results.toList)).trans (by kernel_rfl)
theorem f127ok (h:z0u.Spec):z2u Try.prog 127 e127 :=
 z30 (k:=y3c) (ps:=zpe) (rs:=zu0) (back:=true) (c:=(za1 1)) (pl:=y3a) (je:=(some z9p)) (B:=f127B) Try.func127 (by kernel_rfl) (by kernel_rfl) (by kernel_rfl) z34 f127GOk (by kernel_rfl) (by kernel_rfl) (by kernel_rfl) fun lit X hl hb1 hb2 hp=>by
  obtain ⟨⟨⟨b0,_⟩,r0⟩,a,_⟩:=X
  match lit,hl with
  | [u0],_ =>
   obtain ⟨N,h⟩:=h [u0] b0 r0 a hb1.1 hb2.1 hp
   exact ⟨N,(f127m N u0 b0 r0 a).trans (h N (Nat.le_refl N))⟩
theorem e127ok:z2u Try.prog 127 e127:=f127ok z0u.ok
end Go.Fw
namespace Go.Fw
variable {ρ:Type}
open Go.Proofs
def y5p:zey:=⟨113,[(5,.int .u8)],.pair (.int .i64) (.int .i64)⟩
def zpr:List PT:=[⟨.int .i64,false,false⟩]
def zui:List PT:=[⟨.pair (.int .i64) (.pair (.int .i64) (.sl 3 (.int .i64))),true,false⟩,⟨.str,false,false⟩]
def e106:z5q:=⟨y5p,zpr,true,zui,(some fun X=>z1r.P X.1.1.1 X.1.2 X.2.1),fun X=>((z1r.g X.1.1.1 X.1.2 X.2.1).1,((),((z1r.g X.1.1.1 X.1.2 X.2.1).2.1,((z1r.g X.1.1.1 X.1.2 X.2.1).2.2,()))))⟩
def f106G:Gm:=addV (addV z24 126 e126) 127 e127
theorem f106GOk:GOk Try.prog f106G:=((GOk.nil).addV e126ok (by kernel_rfl)).addV e127ok (by kernel_rfl)
def y5o:z09:=⟨[],[],[],[],[]⟩
def f106s0 (u0:Value) (b0:List Int) (r0:Int × Int) (a:Int):St:=z3v y5p zpr [u0] (((b0,()),r0),(a,()))
def f106s1 (u0:Value) (a:LI) (b:ByteArray) (d e:Int) (f:List Int) (g h:Int):St:=z1k [(4,xb 4),(5,.c (.str b)),(100000,xb 100000)] [(4,(30,[yi d,yi e,.own 20000258])),(100000,(113,[.bor u0 5 (.int .u8) f,yi g,yi h]))] [(20000258,(⟨3,.int .i64,a,true,false⟩:Row))]
def f106l1:z09:=⟨[4,5,100000],[4,100000],[],[],[(⟨true,4,2⟩,20000258)]⟩
def f106B:Nat→Option z09:=z1n [(1000000,f106l1)]
abbrev f106i {ρ:Type} (N:Nat) (c:Code) (p:z0p) (σ:St) (K:KT ρ):Option ρ:=z1t f106G tab f106B N c p σ K
def f106c (n:Nat):Code:=z2x 99 (z25 Try.f106) n
theorem f106t0 N u0 b0 r0 a (K:KT ρ):f106i N (f106c 1) .n (f106s0 u0 b0 r0 a) (z00 (some y5o) K) =
 z1r.Z0 N b0 r0 a (fun b c d e f g h=>K .ret (f106s1 u0 b c d e f g h)):=by kernel_rfl
theorem f106m (N:Nat) (u0:Value) (b0:List Int) (r0:Int × Int) (a:Int):f106i N (f106c 1) .n (f106s0 u0 b0 r0 a) (z00 (some y5o) (z7q tab y5p zpr true zui Try.f106.results.toList)) = z1r.Z0 N b0 r0 a (fun b c d e h f g=>some ([u0],((f,g),((),((d,(e,b)),(c,())))))) :=
 (f106t0 N u0 b0 r0 a (z7q tab y5p zpr true zui Try.f106.results.toList)).trans (by kernel_rfl)
theorem f106ok (h:z1r.Spec):z2u Try.prog 106 e106 :=
 z30 (k:=y5p) (ps:=zpr) (rs:=zui) (back:=true) (c:=(f106c 1)) (pl:=.n) (je:=(some y5o)) (B:=f106B) Try.func106 (by kernel_rfl) (by kernel_rfl) (by kernel_rfl) z34 f106GOk (by kernel_rfl) (by kernel_rfl) (by kernel_rfl) fun lit X hl hb1 hb2 hp=>by
  obtain ⟨⟨⟨b0,_⟩,r0⟩,a,_⟩:=X
  match lit,hl with
  | [u0],_ =>
   obtain ⟨N,h⟩:=h [u0] b0 r0 a hb1.1 hp
   exact ⟨N,(f106m N u0 b0 r0 a).trans (h N (Nat.le_refl N))⟩
theorem e106ok:z2u Try.prog 106 e106:=f106ok z1r.ok
end Go.Fw
namespace Go.Fw
variable {ρ:Type}
open Go.Proofs
def f67k:zey:=⟨113,[(5,.int .u8)],.pair (.int .i64) (.int .i64)⟩
def y1b:List PT:=[]
def f67rs:List PT:=[⟨.pair (.int .i64) (.pair (.int .i64) (.sl 3 (.int .i64))),true,false⟩]
def e67:z5q:=⟨f67k,y1b,true,f67rs,(some fun X=>z1p.P X.1.1.1 X.1.2),fun X=>((z1p.g X.1.1.1 X.1.2).1,((),((z1p.g X.1.1.1 X.1.2).2,())))⟩
def f67G:Gm:=addV (addV (addV z24 104 e104) 105 e105) 106 e106
theorem f67GOk:GOk Try.prog f67G:=(((GOk.nil).addV e104ok (by kernel_rfl)).addV e105ok (by kernel_rfl)).addV e106ok (by kernel_rfl)
def f67lE:z09:=⟨[],[],[],[],[]⟩
def f67s0 (u0:Value) (b0:List Int) (r0:Int × Int):St:=z3v f67k y1b [u0] (((b0,()),r0),())
def f67s1 (u0:Value) (a:LI) (b c:Int) (d:List Int) (e f:Int):St:=z1k [(2,xb 2),(100000,xb 100000)] [(2,(30,[yi b,yi c,.own 20000130])),(100000,(113,[.bor u0 5 (.int .u8) d,yi e,yi f]))] [(20000130,(⟨3,.int .i64,a,true,false⟩:Row))]
def f67l1:z09:=⟨[2,100000],[2,100000],[],[],[(⟨true,2,2⟩,20000130)]⟩
def f67B:Nat→Option z09:=z1n [(1000000,f67l1)]
abbrev f67i {ρ:Type} (N:Nat) (c:Code) (p:z0p) (σ:St) (K:KT ρ):Option ρ:=z1t f67G tab f67B N c p σ K
def f67c (n:Nat):Code:=z2x 99 (z25 Try.f67) n
theorem f67t0 N u0 b0 r0 (K:KT ρ):f67i N (f67c 1) .n (f67s0 u0 b0 r0) (z00 (some f67lE) K) =
 z1p.Z0 N b0 r0 (fun a b c d e f=>K .ret (f67s1 u0 a b c d e f)):=by kernel_rfl
theorem f67m (N:Nat) (u0:Value) (b0:List Int) (r0:Int × Int):f67i N (f67c 1) .n (f67s0 u0 b0 r0) (z00 (some f67lE) (z7q tab f67k y1b true f67rs Try.f67.results.toList)) = z1p.Z0 N b0 r0 (fun a b c f d e=>some ([u0],((d,e),((),((b,(c,a)),()))))) :=
 (f67t0 N u0 b0 r0 (z7q tab f67k y1b true f67rs Try.f67.results.toList)).trans (by kernel_rfl)
theorem f67ok (h:z1p.Spec):z2u Try.prog 67 e67 :=
 z30 (k:=f67k) (ps:=y1b) (rs:=f67rs) (back:=true) (c:=(f67c 1)) (pl:=.n) (je:=(some f67lE)) (B:=f67B) Try.func67 (by kernel_rfl) (by kernel_rfl) (by kernel_rfl) z34 f67GOk (by kernel_rfl) (by kernel_rfl) (by kernel_rfl) fun lit X hl hb1 hb2 hp=>by
  obtain ⟨⟨⟨b0,_⟩,r0⟩,_⟩:=X
  match lit,hl with
  | [u0],_ =>
   obtain ⟨N,h⟩:=h [u0] b0 r0 hb1.1 hp
   exact ⟨N,(f67m N u0 b0 r0).trans (h N (Nat.le_refl N))⟩
theorem e67ok:z2u Try.prog 67 e67:=f67ok z1p.ok
end Go.Fw
