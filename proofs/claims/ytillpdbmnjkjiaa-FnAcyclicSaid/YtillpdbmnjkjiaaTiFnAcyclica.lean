/- The ties: the program's text comes to the plain functions. Nothing is assumed. -/
import Derived.Test.YtillpdbmnjkjiaaFwc
import Derived.Test.YtillpdbmnjkjiaaProg
import Derived.Test.YtillpdbmnjkjiaaPuFnAcyclicb
import Derived.Test.YtillpdbmnjkjiaaPuFnAcyclica
noncomputable section
set_option linter.unusedVariables false
set_option linter.unusedSimpArgs false
set_option maxRecDepth 100000
namespace Go.Fw
open Go.Proofs
def tab : Tab := zix [
 (2, ⟨false, .int .i64, [.int .i64 0], [], none, 8⟩),
 (3, ⟨false, .int .i64, [.int .i64 0], [], none, 8⟩),
 (4, ⟨false, .bool, [.bool false], [], none, 1⟩),
 (5, ⟨false, .int .u8, [.int .u8 0], [], none, 1⟩),
 (6, ⟨false, .int .u8, [.int .u8 0], [], none, 1⟩),
 (7, ⟨true, .pair (.int .i64) (.pair (.int .i64) (.pair (.bool) (.int .u8))), [.int .i64 0, .int .i64 0, .bool false, .int .u8 0], [(0, 1, false), (1, 1, false), (2, 1, false), (3, 1, false)], none, 24⟩),
 (8, ⟨true, .pair (.int .i64) (.pair (.int .i64) (.pair (.bool) (.int .u8))), [.int .i64 0, .int .i64 0, .bool false, .int .u8 0], [(0, 1, false), (1, 1, false), (2, 1, false), (3, 1, false)], none, 24⟩),
 (9, ⟨false, .str, [.str ByteArray.empty], [], none, 16⟩),
 (10, ⟨false, .str, [.str ByteArray.empty], [], none, 16⟩),
 (11, ⟨false, .str, [.str ByteArray.empty], [], none, 16⟩),
 (12, ⟨false, .int .u64, [.int .u64 0], [], none, 8⟩),
 (13, ⟨true, .pair (.str) (.int .u64), [.str ByteArray.empty, .int .u64 0], [(0, 1, false), (1, 1, false)], none, 24⟩),
 (14, ⟨true, .pair (.str) (.int .u64), [.str ByteArray.empty, .int .u64 0], [(0, 1, false), (1, 1, false)], none, 24⟩),
 (20, ⟨false, .err, [.err false], [], none, 16⟩),
 (21, ⟨false, .int .i32, [.int .i32 0], [], none, 4⟩),
 (22, ⟨false, .sl 3 (.int .i64), [.nil], [], some 3, 24⟩),
 (23, ⟨true, .pair (.int .i64) (.pair (.int .i64) (.sl 3 (.int .i64))), [.int .i64 0, .int .i64 0, .nil], [(0, 1, false), (1, 1, false), (2, 1, false)], none, 40⟩),
 (24, ⟨true, .pair (.int .i64) (.pair (.int .i64) (.sl 3 (.int .i64))), [.int .i64 0, .int .i64 0, .nil], [(0, 1, false), (1, 1, false), (2, 1, false)], none, 40⟩),
 (25, ⟨false, .sl 103 (.pair (.int .i64) (.sl 135 (.pair (.sl 3 (.int .i64)) (.int .i64)))), [.nil], [], some 103, 24⟩),
 (26, ⟨true, .pair (.pair (.int .i64) (.pair (.int .i64) (.sl 3 (.int .i64)))) (.sl 103 (.pair (.int .i64) (.sl 135 (.pair (.sl 3 (.int .i64)) (.int .i64))))), [.int .i64 0, .int .i64 0, .nil, .nil], [(0, 3, true), (3, 1, false)], none, 64⟩),
 (27, ⟨true, .pair (.pair (.int .i64) (.pair (.int .i64) (.sl 3 (.int .i64)))) (.sl 103 (.pair (.int .i64) (.sl 135 (.pair (.sl 3 (.int .i64)) (.int .i64))))), [.int .i64 0, .int .i64 0, .nil, .nil], [(0, 3, true), (3, 1, false)], none, 64⟩),
 (30, ⟨true, .pair (.int .i64) (.pair (.int .i64) (.sl 3 (.int .i64))), [.int .i64 0, .int .i64 0, .nil], [(0, 1, false), (1, 1, false), (2, 1, false)], none, 40⟩),
 (31, ⟨false, .sl 71 (.pair (.int .i64) (.sl 107 (.pair (.sl 3 (.int .i64)) (.int .i64)))), [.nil], [], some 71, 24⟩),
 (32, ⟨true, .pair (.pair (.int .i64) (.pair (.int .i64) (.sl 3 (.int .i64)))) (.sl 71 (.pair (.int .i64) (.sl 107 (.pair (.sl 3 (.int .i64)) (.int .i64))))), [.int .i64 0, .int .i64 0, .nil, .nil], [(0, 3, true), (3, 1, false)], none, 64⟩),
 (33, ⟨true, .pair (.pair (.int .i64) (.pair (.int .i64) (.sl 3 (.int .i64)))) (.sl 71 (.pair (.int .i64) (.sl 107 (.pair (.sl 3 (.int .i64)) (.int .i64))))), [.int .i64 0, .int .i64 0, .nil, .nil], [(0, 3, true), (3, 1, false)], none, 64⟩),
 (38, ⟨false, .sl 22 (.sl 3 (.int .i64)), [.nil], [], some 22, 24⟩),
 (47, ⟨false, .sl 5 (.int .u8), [.nil], [], some 5, 24⟩),
 (69, ⟨false, .sl 107 (.pair (.sl 3 (.int .i64)) (.int .i64)), [.nil], [], some 107, 24⟩),
 (70, ⟨true, .pair (.int .i64) (.sl 107 (.pair (.sl 3 (.int .i64)) (.int .i64))), [.int .i64 0, .nil], [(0, 1, false), (1, 1, false)], none, 32⟩),
 (71, ⟨true, .pair (.int .i64) (.sl 107 (.pair (.sl 3 (.int .i64)) (.int .i64))), [.int .i64 0, .nil], [(0, 1, false), (1, 1, false)], none, 32⟩),
 (77, ⟨true, .pair (.sl 22 (.sl 3 (.int .i64))) (.bool), [.nil, .bool false], [(0, 1, false), (1, 1, false)], none, 32⟩),
 (78, ⟨true, .pair (.sl 22 (.sl 3 (.int .i64))) (.bool), [.nil, .bool false], [(0, 1, false), (1, 1, false)], none, 32⟩),
 (88, ⟨false, .sl 30 (.pair (.int .i64) (.pair (.int .i64) (.sl 3 (.int .i64)))), [.nil], [], some 30, 24⟩),
 (95, ⟨false, .pair (.int .i64) (.sl 0 .bool), [.undef], [], none, 8⟩),
 (96, ⟨false, .sl 4 (.bool), [.nil], [], some 4, 24⟩),
 (101, ⟨false, .sl 135 (.pair (.sl 3 (.int .i64)) (.int .i64)), [.nil], [], some 135, 24⟩),
 (102, ⟨true, .pair (.int .i64) (.sl 135 (.pair (.sl 3 (.int .i64)) (.int .i64))), [.int .i64 0, .nil], [(0, 1, false), (1, 1, false)], none, 32⟩),
 (103, ⟨true, .pair (.int .i64) (.sl 135 (.pair (.sl 3 (.int .i64)) (.int .i64))), [.int .i64 0, .nil], [(0, 1, false), (1, 1, false)], none, 32⟩),
 (106, ⟨true, .pair (.sl 3 (.int .i64)) (.int .i64), [.nil, .int .i64 0], [(0, 1, false), (1, 1, false)], none, 32⟩),
 (107, ⟨true, .pair (.sl 3 (.int .i64)) (.int .i64), [.nil, .int .i64 0], [(0, 1, false), (1, 1, false)], none, 32⟩),
 (112, ⟨true, .pair (.sl 5 (.int .u8)) (.pair (.int .i64) (.int .i64)), [.nil, .int .i64 0, .int .i64 0], [(0, 1, false), (1, 1, false), (2, 1, false)], none, 40⟩),
 (113, ⟨true, .pair (.sl 5 (.int .u8)) (.pair (.int .i64) (.int .i64)), [.nil, .int .i64 0, .int .i64 0], [(0, 1, false), (1, 1, false), (2, 1, false)], none, 40⟩),
 (131, ⟨false, .int .u64, [.int .u64 0], [], none, 8⟩),
 (135, ⟨true, .pair (.sl 3 (.int .i64)) (.int .i64), [.nil, .int .i64 0], [(0, 1, false), (1, 1, false)], none, 32⟩),
 (139, ⟨false, .sl 9 (.str), [.nil], [], some 9, 24⟩),
 (148, ⟨false, .int .u32, [.int .u32 0], [], none, 4⟩),
 (149, ⟨false, .int .u8, [.int .u8 0], [], none, 1⟩),
 (150, ⟨false, .int .u8, [.int .u8 0], [], none, 1⟩),
 (153, ⟨false, .int .i32, [.int .i32 0], [], none, 4⟩),
 (154, ⟨false, .int .i32, [.int .i32 0], [], none, 4⟩)]
theorem z3b : TOk Try.prog tab := TOk.of (by kernel_rfl)
instance : Inv Try.prog := Inv.triv _
end Go.Fw
namespace Go.Fw
variable {ρ : Type}
open Go.Proofs
def zm7 : Sig := ⟨[⟨.sl 5 (.int .u8), false, false⟩], [⟨.bool, false, false⟩]⟩
def e25 : z2y := ⟨zm7, none, fun X => ((), ((z5y.g X.1), ()))⟩
def f25G : Gm := z27
theorem f25GOk : GOk Try.prog f25G := GOk.nil
def f25lE : z0d := ⟨[], [], [], [], []⟩
def f25s0 (a : List Int) : St := z2p zm7.ps (a, ())
def f25s1 (a : Bool) : St := z1i [(2, xB a)] [] []
def f25l1 : z0d := ⟨[2], [], [], [], []⟩
def f25B : Nat → Option z0d := z1g [(1000000, f25l1)]
abbrev f25i {ρ : Type} (N : Nat) (c : Code) (p : z0m) (σ : St) (K : KT ρ) : Option ρ := z1n f25G tab f25B N c p σ K
def f25c (n : Nat) : Code := z30 99 (z2a Try.f25) n
theorem f25t0 N a (K : KT ρ) : f25i N (f25c 1) .n (f25s0 a) (z01 (some f25lE) K) =
 z5y.Z0 N a (fun b => K .ret (f25s1 b)) := by kernel_rfl
theorem f25m (N : Nat) (a : List Int) : f25i N (f25c 1) .n (f25s0 a) (z01 (some f25lE) (z47 tab zm7 Try.f25.results.toList)) = z5y.Z0 N a (fun b => some ((), (b, ()))) :=
 (f25t0 N a (z47 tab zm7 Try.f25.results.toList)).trans (by kernel_rfl)
theorem f25ok (h : z5y.Spec) : z0t Try.prog 25 e25 :=
 z0p (sig := zm7) (c := (f25c 1)) (pl := .n) (je := (some f25lE)) (B := f25B) Try.func25 (by kernel_rfl) (by kernel_rfl) (by kernel_rfl) z3b f25GOk (by kernel_rfl) (by kernel_rfl) (by kernel_rfl) (by kernel_rfl) fun X hb hp => by
  obtain ⟨a, _⟩ := X
  obtain ⟨N, h⟩ := h a hb.1
  exact ⟨N, (f25m N a).trans (h N (Nat.le_refl N))⟩
theorem e25ok : z0t Try.prog 25 e25 := f25ok z5y.ok
end Go.Fw
namespace Go.Fw
variable {ρ : Type}
open Go.Proofs
def f65k : zd9 := ⟨113, [(5, .int .u8)], .pair (.int .i64) (.int .i64)⟩
def f65ps : List PT := [⟨.sl 5 (.int .u8), false, false⟩]
def e65 : z9l := ⟨f65k, f65ps, none, fun X => (z0x.g X.1)⟩
def f65G : Gm := z27
theorem f65GOk : GOk Try.prog f65G := GOk.nil
def ze4 : z0d := ⟨[], [], [], [], []⟩
def f65s0 (u0 : Value) (a : List Int) : St := zcv 5 (.int .u8) (f65ps.drop 1) u0 (a, ())
def f65s1 (u0 : Value) (a : List Int) : St := z1i [(0, .c (.bor u0 5 (.int .u8) a))] [] []
def f65l1 : z0d := ⟨[0], [], [], [], []⟩
def zfj (u0 : Value) (a : List Int) (b : Int) : St := z1i [(0, .c (.bor u0 5 (.int .u8) a)), (3, xi b)] [] []
def ze5 : z0d := ⟨[0, 3], [], [], [], []⟩
def zsg (u0 : Value) (a : List Int) (b d : Int) : St := z1i [(0, .c (.bor u0 5 (.int .u8) a)), (3, xi b), (4, xi d)] [] []
def zxa : z0d := ⟨[0, 3, 4], [], [], [], []⟩
def f65s4 (u0 : Value) (a : List Int) (b c : Int) : St := z1i [(2, xb 31)] [(31, (113, [.bor u0 5 (.int .u8) a, yi b, yi c]))] []
def f65l4 : z0d := ⟨[2], [31], [], [], []⟩
def f65B : Nat → Option z0d := z1g [(0, ze5), (1000000, f65l4)]
abbrev zlx {ρ : Type} (N : Nat) (c : Code) (p : z0m) (σ : St) (K : KT ρ) : Option ρ := z1n f65G tab f65B N c p σ K
def zk5 (n : Nat) : Code := z30 99 (z2a Try.f65) n
theorem f65t1 N u0 a (K : KT ρ) : zlx N (zk5 2) .n (f65s0 u0 a) (z01 (some f65l1) K) =
 z0x.Z1 N a (fun a => K .nrm (f65s1 u0 a)) := by kernel_rfl
theorem f65t3 N u0 a (K : KT ρ) : zlx N (zk5 5) .n (f65s1 u0 a) (z01 (some ze5) K) =
 z0x.Z3 N a (fun a b => K .nrm (zfj u0 a b)) := by kernel_rfl
theorem f65t6 N u0 a b (K : KT ρ) : zlx N (zk5 19) .n (zfj u0 a b) (z01 (some zxa) K) =
 z0x.Z6 N a b (fun a b c => K .nrm (zsg u0 a b c)) := by kernel_rfl
theorem f65t9 N u0 a b c (K : KT ρ) : zlx N (zk5 75) .n (zsg u0 a b c) (z01 (some zxa) K) =
 z0x.Z9 N a b c (fun a b c => K .nrm (zsg u0 a b c)) (fun a b => K (.exit 0) (zfj u0 a b)) := by kernel_rfl
def f65p8 : z0m := .mk none (some zxa) .n .n
abbrev f65w8 {ρ : Type} (N M : Nat) (σ : St) (K : KT ρ) : Option ρ := z2h (fun σ K => zlx N (zk5 75) .n σ K) zxa M σ K
theorem f65t8L {ρ : Type} (N : Nat) (u0 : Value) (K : KT ρ) : ∀ (M : Nat) (a : List Int) (b c : Int), f65w8 N M (zsg u0 a b c) K =
 z0x.Z8L N (fun a b => K (.exit 0) (zfj u0 a b)) M a b c
 | 0, _, _, _ => rfl
 | M + 1, a, b, c => z0w (fun k => z0x.Z9 N a b c k (fun a b => K (.exit 0) (zfj u0 a b))) (f65t9 N u0 (K := z15 (fun σ => f65w8 N M σ K) K) ..) (fx3 fun a b c => f65t8L N u0 K M a b c) (by kernel_rfl)
theorem f65t8 N u0 a b c (K : KT ρ) : zlx N (zk5 43) f65p8 (zsg u0 a b c) (z01 (some ze5) K) =
  z0x.Z8 N a b c (fun a b => K (.exit 0) (zfj u0 a b)) :=
 z18 (by kernel_rfl) (f65t8L N u0 (z01 (some ze5) K) N a b c) (by kernel_rfl)
def f65p7 : z0m := .mk (some ze5) none f65p8 .n
theorem f65t7 N u0 a b c (K : KT ρ) : zlx N (zk5 27) f65p7 (zsg u0 a b c) (z01 (some ze5) K) =
  z0x.Z7 N a b c (fun a b => K .nrm (zfj u0 a b)) :=
 z0l (by kernel_rfl) (f65t8 N u0 (K := z1c 0 (z01 (some ze5) K)) ..) (by kernel_rfl)
def f65p5 : z0m := .mk (some zxa) none .n f65p7
theorem f65t5 N u0 a b (K : KT ρ) : zlx N (zk5 11) f65p5 (zfj u0 a b) (z01 (some ze5) K) =
  z0x.Z5 N a b (fun a b => K .nrm (zfj u0 a b)) :=
 z06 (fun k => z0x.Z6 N a b k) (by kernel_rfl) (f65t6 N u0 (K := z15 (fun σ => zlx N (zk5 27) f65p7 σ (z01 (some ze5) K)) (z01 (some ze5) K)) ..) (fx3 fun a b c => f65t7 N u0 a b c K) (by kernel_rfl)
theorem f65t10 N u0 a b (K : KT ρ) : zlx N (zk5 15) .n (zfj u0 a b) (z01 (some ze4) K) =
 z0x.Z10 N a b (fun c d e => K .ret (f65s4 u0 c d e)) := by kernel_rfl
def f65p4 : z0m := .mk (some ze5) none f65p5 .n
theorem f65t4 N u0 a b (K : KT ρ) : zlx N (zk5 7) f65p4 (zfj u0 a b) (z01 (some ze4) K) =
  z0x.Z4 N a b (fun c d e => K .ret (f65s4 u0 c d e)) :=
 z06 (fun k => z0x.Z5 N a b k) (by kernel_rfl) (f65t5 N u0 (K := z15 (fun σ => zlx N (zk5 15) .n σ (z01 (some ze4) K)) (z01 (some ze4) K)) ..) (fx2 fun a b => f65t10 N u0 a b K) (by kernel_rfl)
def f65p2 : z0m := .mk (some ze5) none .n f65p4
theorem f65t2 N u0 a (K : KT ρ) : zlx N (zk5 3) f65p2 (f65s1 u0 a) (z01 (some ze4) K) =
  z0x.Z2 N a (fun b c d => K .ret (f65s4 u0 b c d)) :=
 z06 (fun k => z0x.Z3 N a k) (by kernel_rfl) (f65t3 N u0 (K := z15 (fun σ => zlx N (zk5 7) f65p4 σ (z01 (some ze4) K)) (z01 (some ze4) K)) ..) (fx2 fun a e => f65t4 N u0 a e K) (by kernel_rfl)
def f65p0 : z0m := .mk (some f65l1) none .n f65p2
theorem f65t0 N u0 a (K : KT ρ) : zlx N (zk5 1) f65p0 (f65s0 u0 a) (z01 (some ze4) K) =
  z0x.Z0 N a (fun b c d => K .ret (f65s4 u0 b c d)) :=
 z06 (fun k => z0x.Z1 N a k) (by kernel_rfl) (f65t1 N u0 (K := z15 (fun σ => zlx N (zk5 3) f65p2 σ (z01 (some ze4) K)) (z01 (some ze4) K)) ..) (funext fun a => f65t2 N u0 a K) (by kernel_rfl)
theorem f65m (N : Nat) (u0 : Value) (a : List Int) : zlx N (zk5 1) f65p0 (f65s0 u0 a) (z01 (some ze4) (finKN tab f65k Try.f65.results.toList)) = z0x.Z0 N a (fun d b c => some ([u0], (b, c))) :=
 (f65t0 N u0 a (finKN tab f65k Try.f65.results.toList)).trans (by kernel_rfl)
theorem f65ok (h : z0x.Spec) : z8i Try.prog 65 e65 :=
 zh5 (ps := f65ps.drop 1) (t := f65k.t) (c := (zk5 1)) (pl := f65p0) (je := (some ze4)) (B := f65B) Try.func65 (by kernel_rfl) (by kernel_rfl) (by kernel_rfl) z3b f65GOk (by kernel_rfl) (by kernel_rfl) (by kernel_rfl) (by kernel_rfl) fun u0 X hb2 hp => by
  obtain ⟨a, _⟩ := X
  obtain ⟨N, h⟩ := h [u0] a hb2.1
  exact ⟨N, (f65m N u0 a).trans (h N (Nat.le_refl N))⟩
theorem e65ok : z8i Try.prog 65 e65 := f65ok z0x.ok
end Go.Fw
namespace Go.Fw
variable {ρ : Type}
open Go.Proofs
def y12 : zd9 := ⟨113, [(5, .int .u8)], .pair (.int .i64) (.int .i64)⟩
def zml : List PT := []
def zqt : List PT := [⟨.int .i64, false, false⟩]
def e107 : z4w := ⟨y12, zml, true, zqt, (some fun X => z0c.P X.1.1.1 X.1.2), fun X => ((z0c.g X.1.1.1 X.1.2).1, ((), ((z0c.g X.1.1.1 X.1.2).2, ())))⟩
def f107G : Gm := z27
theorem f107GOk : GOk Try.prog f107G := GOk.nil
def y11 : z0d := ⟨[], [], [], [], []⟩
def f107s0 (u0 : Value) (b0 : List Int) (r0 : Int × Int) : St := z37 y12 zml [u0] (((b0, ()), r0), ())
def f107s1 (u0 : Value) (a : Int) (b : List Int) (c d : Int) : St := z1i [(2, xi a), (100000, xb 100000)] [(100000, (113, [.bor u0 5 (.int .u8) b, yi c, yi d]))] []
def f107l1 : z0d := ⟨[2, 100000], [100000], [], [], []⟩
def f107B : Nat → Option z0d := z1g [(1000000, f107l1)]
abbrev f107i {ρ : Type} (N : Nat) (c : Code) (p : z0m) (σ : St) (K : KT ρ) : Option ρ := z1n f107G tab f107B N c p σ K
def f107c (n : Nat) : Code := z30 99 (z2a Try.f107) n
theorem f107t0 N u0 b0 r0 (K : KT ρ) : f107i N (f107c 1) .n (f107s0 u0 b0 r0) (z01 (some y11) K) =
 z0c.Z0 N b0 r0 (fun a b c d => K .ret (f107s1 u0 a b c d)) := by kernel_rfl
theorem f107m (N : Nat) (u0 : Value) (b0 : List Int) (r0 : Int × Int) : f107i N (f107c 1) .n (f107s0 u0 b0 r0) (z01 (some y11) (z6t tab y12 zml true zqt Try.f107.results.toList)) = z0c.Z0 N b0 r0 (fun a d b c => some ([u0], ((b, c), ((), (a, ()))))) :=
 (f107t0 N u0 b0 r0 (z6t tab y12 zml true zqt Try.f107.results.toList)).trans (by kernel_rfl)
theorem f107ok (h : z0c.Spec) : z2c Try.prog 107 e107 :=
 z2g (k := y12) (ps := zml) (rs := zqt) (back := true) (c := (f107c 1)) (pl := .n) (je := (some y11)) (B := f107B) Try.func107 (by kernel_rfl) (by kernel_rfl) (by kernel_rfl) z3b f107GOk (by kernel_rfl) (by kernel_rfl) (by kernel_rfl) fun lit X hl hb1 hb2 hp => by
  obtain ⟨⟨⟨b0, _⟩, r0⟩, _⟩ := X
  match lit, hl with
  | [u0], _ =>
   obtain ⟨N, h⟩ := h [u0] b0 r0 hb1.1 hp
   exact ⟨N, (f107m N u0 b0 r0).trans (h N (Nat.le_refl N))⟩
theorem e107ok : z2c Try.prog 107 e107 := f107ok z0c.ok
end Go.Fw
namespace Go.Fw
variable {ρ : Type}
open Go.Proofs
def f69k : zd9 := ⟨113, [(5, .int .u8)], .pair (.int .i64) (.int .i64)⟩
def zx6 : List PT := [⟨.int .i64, false, false⟩]
def f69rs : List PT := [⟨.int .i64, false, false⟩]
def e69 : z4w := ⟨f69k, zx6, true, f69rs, (some fun X => z00.P X.1.1.1 X.1.2 X.2.1), fun X => ((z00.g X.1.1.1 X.1.2 X.2.1).1, ((), ((z00.g X.1.1.1 X.1.2 X.2.1).2, ())))⟩
def f69G : Gm := addV z27 107 e107
theorem f69GOk : GOk Try.prog f69G := (GOk.nil).addV e107ok (by kernel_rfl)
def f69lE : z0d := ⟨[], [], [], [], []⟩
def f69s0 (u0 : Value) (b0 : List Int) (r0 : Int × Int) (a : Int) : St := z37 f69k zx6 [u0] (((b0, ()), r0), (a, ()))
def f69s1 (u0 : Value) (a : Int) (b : List Int) (c d : Int) : St := z1i [(4, xi a), (100000, xb 100000)] [(100000, (113, [.bor u0 5 (.int .u8) b, yi c, yi d]))] []
def f69l1 : z0d := ⟨[4, 100000], [100000], [], [], []⟩
def f69B : Nat → Option z0d := z1g [(1000000, f69l1)]
abbrev f69i {ρ : Type} (N : Nat) (c : Code) (p : z0m) (σ : St) (K : KT ρ) : Option ρ := z1n f69G tab f69B N c p σ K
def f69c (n : Nat) : Code := z30 99 (z2a Try.f69) n
theorem f69t0 N u0 b0 r0 a (K : KT ρ) : f69i N (f69c 1) .n (f69s0 u0 b0 r0 a) (z01 (some f69lE) K) =
 z00.Z0 N b0 r0 a (fun b c d e => K .ret (f69s1 u0 b c d e)) := by kernel_rfl
theorem f69m (N : Nat) (u0 : Value) (b0 : List Int) (r0 : Int × Int) (a : Int) : f69i N (f69c 1) .n (f69s0 u0 b0 r0 a) (z01 (some f69lE) (z6t tab f69k zx6 true f69rs Try.f69.results.toList)) = z00.Z0 N b0 r0 a (fun b e c d => some ([u0], ((c, d), ((), (b, ()))))) :=
 (f69t0 N u0 b0 r0 a (z6t tab f69k zx6 true f69rs Try.f69.results.toList)).trans (by kernel_rfl)
theorem f69ok (h : z00.Spec) : z2c Try.prog 69 e69 :=
 z2g (k := f69k) (ps := zx6) (rs := f69rs) (back := true) (c := (f69c 1)) (pl := .n) (je := (some f69lE)) (B := f69B) Try.func69 (by kernel_rfl) (by kernel_rfl) (by kernel_rfl) z3b f69GOk (by kernel_rfl) (by kernel_rfl) (by kernel_rfl) fun lit X hl hb1 hb2 hp => by
  obtain ⟨⟨⟨b0, _⟩, r0⟩, a, _⟩ := X
  match lit, hl with
  | [u0], _ =>
   obtain ⟨N, h⟩ := h [u0] b0 r0 a hb1.1 hp
   exact ⟨N, (f69m N u0 b0 r0 a).trans (h N (Nat.le_refl N))⟩
theorem zso : z2c Try.prog 69 e69 := f69ok z00.ok
end Go.Fw
namespace Go.Fw
variable {ρ : Type}
open Go.Proofs
def y1j : zd9 := ⟨113, [(5, .int .u8)], .pair (.int .i64) (.int .i64)⟩
def zmp : List PT := [⟨.int .i64, false, false⟩]
def zr0 : List PT := [⟨.bool, false, false⟩]
def e104 : z4w := ⟨y1j, zmp, true, zr0, (some fun X => z0n.P X.1.1.1 X.1.2 X.2.1), fun X => ((z0n.g X.1.1.1 X.1.2 X.2.1).1, ((), ((z0n.g X.1.1.1 X.1.2 X.2.1).2, ())))⟩
def f104G : Gm := addV z27 69 e69
theorem f104GOk : GOk Try.prog f104G := (GOk.nil).addV zso (by kernel_rfl)
def y1i : z0d := ⟨[], [], [], [], []⟩
def f104s0 (u0 : Value) (b0 : List Int) (r0 : Int × Int) (a : Int) : St := z37 y1j zmp [u0] (((b0, ()), r0), (a, ()))
def f104s1 (u0 : Value) (a : Bool) (b : List Int) (c d : Int) : St := z1i [(4, xB a), (100000, xb 100000)] [(100000, (113, [.bor u0 5 (.int .u8) b, yi c, yi d]))] []
def f104l1 : z0d := ⟨[4, 100000], [100000], [], [], []⟩
def f104B : Nat → Option z0d := z1g [(1000000, f104l1)]
abbrev f104i {ρ : Type} (N : Nat) (c : Code) (p : z0m) (σ : St) (K : KT ρ) : Option ρ := z1n f104G tab f104B N c p σ K
def f104c (n : Nat) : Code := z30 99 (z2a Try.f104) n
theorem f104t0 N u0 b0 r0 a (K : KT ρ) : f104i N (f104c 1) .n (f104s0 u0 b0 r0 a) (z01 (some y1i) K) =
 z0n.Z0 N b0 r0 a (fun b c d e => K .ret (f104s1 u0 b c d e)) := by kernel_rfl
theorem f104m (N : Nat) (u0 : Value) (b0 : List Int) (r0 : Int × Int) (a : Int) : f104i N (f104c 1) .n (f104s0 u0 b0 r0 a) (z01 (some y1i) (z6t tab y1j zmp true zr0 Try.f104.results.toList)) = z0n.Z0 N b0 r0 a (fun b e c d => some ([u0], ((c, d), ((), (b, ()))))) :=
 (f104t0 N u0 b0 r0 a (z6t tab y1j zmp true zr0 Try.f104.results.toList)).trans (by kernel_rfl)
theorem f104ok (h : z0n.Spec) : z2c Try.prog 104 e104 :=
 z2g (k := y1j) (ps := zmp) (rs := zr0) (back := true) (c := (f104c 1)) (pl := .n) (je := (some y1i)) (B := f104B) Try.func104 (by kernel_rfl) (by kernel_rfl) (by kernel_rfl) z3b f104GOk (by kernel_rfl) (by kernel_rfl) (by kernel_rfl) fun lit X hl hb1 hb2 hp => by
  obtain ⟨⟨⟨b0, _⟩, r0⟩, a, _⟩ := X
  match lit, hl with
  | [u0], _ =>
   obtain ⟨N, h⟩ := h [u0] b0 r0 a hb1.1 hp
   exact ⟨N, (f104m N u0 b0 r0 a).trans (h N (Nat.le_refl N))⟩
theorem e104ok : z2c Try.prog 104 e104 := f104ok z0n.ok
end Go.Fw
namespace Go.Fw
variable {ρ : Type}
open Go.Proofs
def zfw : Sig := ⟨[⟨.int .i64, false, false⟩], [⟨.pair (.int .i64) (.pair (.int .i64) (.sl 3 (.int .i64))), true, false⟩]⟩
def e124 : z2y := ⟨zfw, (some fun X => z05.P X.1), fun X => ((), ((z05.g X.1), ()))⟩
def f124G : Gm := z27
theorem f124GOk : GOk Try.prog f124G := GOk.nil
def zzw : z0d := ⟨[], [], [], [], []⟩
def f124s0 (a : Int) : St := z2p zfw.ps (a, ())
def f124s1 (a : LI) (b c : Int) : St := z1i [(2, xb 2)] [(2, (30, [yi b, yi c, .own 20000130]))] [(20000130, (⟨3, .int .i64, a, true, false⟩ : Row))]
def f124l1 : z0d := ⟨[2], [2], [], [], [(⟨true, 2, 2⟩, 20000130)]⟩
def f124B : Nat → Option z0d := z1g [(1000000, f124l1)]
abbrev f124i {ρ : Type} (N : Nat) (c : Code) (p : z0m) (σ : St) (K : KT ρ) : Option ρ := z1n f124G tab f124B N c p σ K
def f124c (n : Nat) : Code := z30 99 (z2a Try.f124) n
theorem f124t0 N a (K : KT ρ) : f124i N (f124c 1) .n (f124s0 a) (z01 (some zzw) K) =
 z05.Z0 N a (fun b c d => K .ret (f124s1 b c d)) := by kernel_rfl
theorem f124m (N : Nat) (a : Int) : f124i N (f124c 1) .n (f124s0 a) (z01 (some zzw) (z47 tab zfw Try.f124.results.toList)) = z05.Z0 N a (fun b c d => some ((), ((c, (d, b)), ()))) :=
 (f124t0 N a (z47 tab zfw Try.f124.results.toList)).trans (by kernel_rfl)
theorem f124ok (h : z05.Spec) : z0t Try.prog 124 e124 :=
 z0p (sig := zfw) (c := (f124c 1)) (pl := .n) (je := (some zzw)) (B := f124B) Try.func124 (by kernel_rfl) (by kernel_rfl) (by kernel_rfl) z3b f124GOk (by kernel_rfl) (by kernel_rfl) (by kernel_rfl) (by kernel_rfl) fun X hb hp => by
  obtain ⟨a, _⟩ := X
  obtain ⟨N, h⟩ := h a hp
  exact ⟨N, (f124m N a).trans (h N (Nat.le_refl N))⟩
theorem e124ok : z0t Try.prog 124 e124 := f124ok z05.ok
end Go.Fw
namespace Go.Fw
variable {ρ : Type}
open Go.Proofs
def zzv : zd9 := ⟨113, [(5, .int .u8)], .pair (.int .i64) (.int .i64)⟩
def zmf : List PT := [⟨.pair (.int .i64) (.pair (.int .i64) (.sl 3 (.int .i64))), true, true⟩, ⟨.int .i64, false, false⟩, ⟨.int .i64, false, false⟩, ⟨.int .i64, false, false⟩, ⟨.int .i64, false, false⟩]
def zql : List PT := []
def e125 : z4w := ⟨zzv, zmf, true, zql, (some fun X => z08.P X.1.1.1 X.1.2 X.2.1 X.2.2.1 X.2.2.2.1 X.2.2.2.2.1 X.2.2.2.2.2.1), fun X => ((z08.g X.1.1.1 X.1.2 X.2.1 X.2.2.1 X.2.2.2.1 X.2.2.2.2.1 X.2.2.2.2.2.1).1, ((z08.g X.1.1.1 X.1.2 X.2.1 X.2.2.1 X.2.2.2.1 X.2.2.2.2.1 X.2.2.2.2.2.1).2, ()))⟩
def f125G : Gm := addV z27 104 e104
theorem f125GOk : GOk Try.prog f125G := (GOk.nil).addV e104ok (by kernel_rfl)
def f125s0 (u0 : Value) (b0 : List Int) (r0 : Int × Int) (a : MT) (b c d e : Int) : St := z37 zzv zmf [u0] (((b0, ()), r0), (a, (b, (c, (d, (e, ()))))))
def f125s1 (u0 : Value) (a : LI) (b c : Int) (d : List Int) (e f : Int) : St := z1i [(100000, xb 100000), (100001, .agg [yi b, yi c, .own 7400066])] [(100000, (113, [.bor u0 5 (.int .u8) d, yi e, yi f]))] [(7400066, (⟨3, .int .i64, a, true, false⟩ : Row))]
def zzu : z0d := ⟨[100000, 100001], [100000], [], [], [(⟨false, 100001, 2⟩, 7400066)]⟩
def f125B : Nat → Option z0d := z1g []
abbrev f125i {ρ : Type} (N : Nat) (c : Code) (p : z0m) (σ : St) (K : KT ρ) : Option ρ := z1n f125G tab f125B N c p σ K
def f125c (n : Nat) : Code := z30 99 (z2a Try.f125) n
theorem f125t0 N u0 b0 r0 a b c d e (K : KT ρ) : f125i N (f125c 1) .n (f125s0 u0 b0 r0 a b c d e) (z01 (some zzu) K) =
 z08.Z0 N b0 r0 a b c d e (fun f g h i j l => K .nrm (f125s1 u0 f g h i j l)) := by kernel_rfl
theorem f125m (N : Nat) (u0 : Value) (b0 : List Int) (r0 : Int × Int) (a : MT) (b c d e : Int) : f125i N (f125c 1) .n (f125s0 u0 b0 r0 a b c d e) (z01 (some zzu) (z6t tab zzv zmf true zql Try.f125.results.toList)) = z08.Z0 N b0 r0 a b c d e (fun f g h l i j => some ([u0], ((i, j), ((g, (h, f)), ())))) :=
 (f125t0 N u0 b0 r0 a b c d e (z6t tab zzv zmf true zql Try.f125.results.toList)).trans (by kernel_rfl)
theorem f125ok (h : z08.Spec) : z2c Try.prog 125 e125 :=
 z2g (k := zzv) (ps := zmf) (rs := zql) (back := true) (c := (f125c 1)) (pl := .n) (je := (some zzu)) (B := f125B) Try.func125 (by kernel_rfl) (by kernel_rfl) (by kernel_rfl) z3b f125GOk (by kernel_rfl) (by kernel_rfl) (by kernel_rfl) fun lit X hl hb1 hb2 hp => by
  obtain ⟨⟨⟨b0, _⟩, r0⟩, a, b, d, e, f, _⟩ := X
  match lit, hl with
  | [u0], _ =>
   obtain ⟨N, h⟩ := h [u0] b0 r0 a b d e f hb1.1 hb2.1 hp
   exact ⟨N, (f125m N u0 b0 r0 a b d e f).trans (h N (Nat.le_refl N))⟩
theorem e125ok : z2c Try.prog 125 e125 := f125ok z08.ok
end Go.Fw
namespace Go.Fw
variable {ρ : Type}
open Go.Proofs
def y1h : zd9 := ⟨113, [(5, .int .u8)], .pair (.int .i64) (.int .i64)⟩
def zmn : List PT := []
def zqy : List PT := [⟨.pair (.int .i64) (.pair (.int .i64) (.sl 3 (.int .i64))), true, false⟩]
def e105 : z4w := ⟨y1h, zmn, true, zqy, (some fun X => z0f.P X.1.1.1 X.1.2), fun X => ((z0f.g X.1.1.1 X.1.2).1, ((), ((z0f.g X.1.1.1 X.1.2).2, ())))⟩
def f105G : Gm := addV (z6a (addV z27 69 e69) 124 e124) 125 e125
theorem f105GOk : GOk Try.prog f105G := (((GOk.nil).addV zso (by kernel_rfl)).add e124ok (by kernel_rfl)).addV e125ok (by kernel_rfl)
def z6y : z0d := ⟨[], [], [], [], []⟩
def y17 (u0 : Value) (b0 : List Int) (r0 : Int × Int) : St := z37 y1h zmn [u0] (((b0, ()), r0), ())
def zib (u0 : Value) (a : List Int) (b c d e : Int) : St := z1i [(0, xb 100000), (2, xb 2), (100000, xb 100000)] [(100000, (113, [.bor u0 5 (.int .u8) a, yi b, yi c])), (2, (30, [yi d, yi e, .nil]))] []
def zqz : z0d := ⟨[0, 2, 100000], [100000, 2], [], [], []⟩
def zqx (u0 : Value) (a : LI) (b : List Int) (c d e f g h : Int) : St := z1i [(0, xb 100000), (2, xb 2), (5, xb 5), (100000, xb 100000)] [(100000, (113, [.bor u0 5 (.int .u8) b, yi c, yi d])), (2, (30, [yi e, yi f, .nil])), (5, (30, [yi g, yi h, .own 20000322]))] [(20000322, (⟨3, .int .i64, a, true, false⟩ : Row))]
def f105l2 : z0d := ⟨[0, 2, 5, 100000], [100000, 2, 5], [], [], [(⟨true, 5, 2⟩, 20000322)]⟩
def z4j (u0 : Value) (a : LI) (b : Int) (c : List Int) (d e f g h i : Int) : St := z1i [(0, xb 100000), (2, xb 2), (5, xb 5), (6, xi b), (100000, xb 100000)] [(100000, (113, [.bor u0 5 (.int .u8) c, yi d, yi e])), (2, (30, [yi f, yi g, .nil])), (5, (30, [yi h, yi i, .own 20000322]))] [(20000322, (⟨3, .int .i64, a, true, false⟩ : Row))]
def z3n : z0d := ⟨[0, 2, 5, 6, 100000], [100000, 2, 5], [], [], [(⟨true, 5, 2⟩, 20000322)]⟩
def zia (u0 : Value) (a : LI) (b c : Int) (d : List Int) (e f g h i j : Int) : St := z1i [(0, xb 100000), (2, xb 2), (5, xb 5), (6, xi b), (7, xi c), (100000, xb 100000)] [(100000, (113, [.bor u0 5 (.int .u8) d, yi e, yi f])), (2, (30, [yi g, yi h, .nil])), (5, (30, [yi i, yi j, .own 20000322]))] [(20000322, (⟨3, .int .i64, a, true, false⟩ : Row))]
def zmo : z0d := ⟨[0, 2, 5, 6, 7, 100000], [100000, 2, 5], [], [], [(⟨true, 5, 2⟩, 20000322)]⟩
def zch (u0 : Value) (a : LI) (b c d e : Int) (f : List Int) (g h : Int) : St := z1i [(2, xb 2), (5, xb 5), (100000, xb 100000)] [(2, (30, [yi b, yi c, .nil])), (5, (30, [yi d, yi e, .own 20000322])), (100000, (113, [.bor u0 5 (.int .u8) f, yi g, yi h]))] [(20000322, (⟨3, .int .i64, a, true, false⟩ : Row))]
def zad : z0d := ⟨[2, 5, 100000], [2, 5, 100000], [], [], [(⟨true, 5, 2⟩, 20000322)]⟩
def zg9 (u0 : Value) (a : LI) (b c : Int) (d : List Int) (e f : Int) : St := z1i [(2, xb 2), (100000, xb 100000)] [(2, (30, [yi b, yi c, .own 20000130])), (100000, (113, [.bor u0 5 (.int .u8) d, yi e, yi f]))] [(20000130, (⟨3, .int .i64, a, true, false⟩ : Row))]
def f105l6 : z0d := ⟨[2, 100000], [2, 100000], [], [], [(⟨true, 2, 2⟩, 20000130)]⟩
def f105B : Nat → Option z0d := z1g [(3, z3n), (2, z3n), (1, zad), (1000000, f105l6)]
abbrev z4n {ρ : Type} (N : Nat) (c : Code) (p : z0m) (σ : St) (K : KT ρ) : Option ρ := z1n f105G tab f105B N c p σ K
def z4e (n : Nat) : Code := z30 99 (z2a Try.f105) n
theorem f105t1 N u0 b0 r0 (K : KT ρ) : z4n N (z4e 2) .n (y17 u0 b0 r0) (z01 (some zqz) K) =
 z0f.Z1 N b0 r0 (fun a b c d e => K .nrm (zib u0 a b c d e)) := by kernel_rfl
theorem f105t3 N u0 a b c d e (K : KT ρ) : z4n N (z4e 5) .n (zib u0 a b c d e) (z01 (some zqz) K) =
 z0f.Z3 N a b c d e (fun a b c d e => K .nrm (zib u0 a b c d e)) (fun f d e a b c => K .ret (zg9 u0 f d e a b c)) := by kernel_rfl
theorem f105t5 N u0 a b c d e (K : KT ρ) : z4n N (z4e 11) .n (zib u0 a b c d e) (z01 (some f105l2) K) =
 z0f.Z5 N a b c d e (fun f a b c d e g h => K .nrm (zqx u0 f a b c d e g h)) := by kernel_rfl
theorem f105t8 N u0 a b c d e f g h (K : KT ρ) : z4n N (z4e 39) .n (zqx u0 a b c d e f g h) (z01 (some z3n) K) =
 z0f.Z8 N a b c d e f g h (fun a i b c d e f g h => K .nrm (z4j u0 a i b c d e f g h)) := by kernel_rfl
theorem f105t12 N u0 a i b c d e f g h (K : KT ρ) : z4n N (z4e 279) .n (z4j u0 a i b c d e f g h) (z01 (some z3n) K) =
 z0f.Z12 N a i b c d e f g h (fun a i b c d e f g h => K .nrm (z4j u0 a i b c d e f g h)) (fun a e f g h b c d => K (.exit 1) (zch u0 a e f g h b c d)) := by kernel_rfl
theorem f105t16 N u0 a b c d e f g h i (K : KT ρ) : z4n N (z4e 2199) .n (z4j u0 a b c d e f g h i) (z01 (some zmo) K) =
 z0f.Z16 N a b c d e f g h i (fun a b j c d e f g h i => K .nrm (zia u0 a b j c d e f g h i)) := by kernel_rfl
theorem f105t19 N u0 a b j c d e f g h i (K : KT ρ) : z4n N (z4e 9367) .n (zia u0 a b j c d e f g h i) (z01 (some zmo) K) =
 z0f.Z19 N a b j c d e f g h i (fun a b j c d e f g h i => K .nrm (zia u0 a b j c d e f g h i)) (fun a b c d e f g h i => K (.exit 3) (z4j u0 a b c d e f g h i)) := by kernel_rfl
def y1c : z0m := .mk none (some zmo) .n .n
abbrev y15 {ρ : Type} (N M : Nat) (σ : St) (K : KT ρ) : Option ρ := z2h (fun σ K => z4n N (z4e 9367) .n σ K) zmo M σ K
theorem zqv {ρ : Type} (N : Nat) (u0 : Value) (K : KT ρ) : ∀ (M : Nat) (a : LI) (b j : Int) (c : List Int) (d e f g h i : Int), y15 N M (zia u0 a b j c d e f g h i) K =
 z0f.Z18L N (fun a b c d e f g h i => K (.exit 3) (z4j u0 a b c d e f g h i)) M a b j c d e f g h i
 | 0, _, _, _, _, _, _, _, _, _, _ => rfl
 | M + 1, a, b, j, c, d, e, f, g, h, i => z0w (fun k => z0f.Z19 N a b j c d e f g h i k (fun a b c d e f g h i => K (.exit 3) (z4j u0 a b c d e f g h i))) (f105t19 N u0 (K := z15 (fun σ => y15 N M σ K) K) ..) (zc2 fun a b j c d e f g h i => zqv N u0 K M a b j c d e f g h i) (by kernel_rfl)
theorem f105t18 N u0 a b j c d e f g h i (K : KT ρ) : z4n N (z4e 5271) y1c (zia u0 a b j c d e f g h i) (z01 (some z3n) K) =
  z0f.Z18 N a b j c d e f g h i (fun a b c d e f g h i => K (.exit 3) (z4j u0 a b c d e f g h i)) :=
 z18 (by kernel_rfl) (zqv N u0 (z01 (some z3n) K) N a b j c d e f g h i) (by kernel_rfl)
def zos : z0m := .mk (some z3n) none y1c .n
theorem f105t17 N u0 a b j c d e f g h i (K : KT ρ) : z4n N (z4e 3223) zos (zia u0 a b j c d e f g h i) (z01 (some z3n) K) =
  z0f.Z17 N a b j c d e f g h i (fun a b c d e f g h i => K .nrm (z4j u0 a b c d e f g h i)) :=
 z0l (by kernel_rfl) (f105t18 N u0 (K := z1c 3 (z01 (some z3n) K)) ..) (by kernel_rfl)
def y1d : z0m := .mk (some zmo) none .n zos
theorem f105t15 N u0 a b c d e f g h i (K : KT ρ) : z4n N (z4e 1175) y1d (z4j u0 a b c d e f g h i) (z01 (some z3n) K) =
  z0f.Z15 N a b c d e f g h i (fun a b c d e f g h i => K .nrm (z4j u0 a b c d e f g h i)) :=
 z06 (fun k => z0f.Z16 N a b c d e f g h i k) (by kernel_rfl) (f105t16 N u0 (K := z15 (fun σ => z4n N (z4e 3223) zos σ (z01 (some z3n) K)) (z01 (some z3n) K)) ..) (zc2 fun a b j c d e f g h i => f105t17 N u0 a b j c d e f g h i K) (by kernel_rfl)
def y1e : z0m := .mk (some z3n) none y1d .n
theorem f105t14 N u0 a b c d e f g h i (K : KT ρ) : z4n N (z4e 663) y1e (z4j u0 a b c d e f g h i) (z01 (some z3n) K) =
  z0f.Z14 N a b c d e f g h i (fun a b c d e f g h i => K .nrm (z4j u0 a b c d e f g h i)) :=
 z0l (by kernel_rfl) (f105t15 N u0 (K := z1c 2 (z01 (some z3n) K)) ..) (by kernel_rfl)
theorem f105t20 N u0 a b c d e f g h i (K : KT ρ) : z4n N (z4e 919) .n (z4j u0 a b c d e f g h i) (z01 (some z3n) K) =
 z0f.Z20 N a b c d e f g h i (fun a b c d e f g h i => K .nrm (z4j u0 a b c d e f g h i)) := by kernel_rfl
def zot : z0m := .mk (some z3n) none y1e .n
theorem f105t13 N u0 a b c d e f g h i (K : KT ρ) : z4n N (z4e 407) zot (z4j u0 a b c d e f g h i) (z01 (some z3n) K) =
  z0f.Z13 N a b c d e f g h i (fun a b c d e f g h i => K .nrm (z4j u0 a b c d e f g h i)) :=
 z06 (fun k => z0f.Z14 N a b c d e f g h i k) (by kernel_rfl) (f105t14 N u0 (K := z15 (fun σ => z4n N (z4e 919) .n σ (z01 (some z3n) K)) (z01 (some z3n) K)) ..) (fx9 fun a b c d e f g h i => f105t20 N u0 a b c d e f g h i K) (by kernel_rfl)
def zou : z0m := .mk (some z3n) none .n zot
theorem f105t11 N u0 a i b c d e f g h (K : KT ρ) : z4n N (z4e 151) zou (z4j u0 a i b c d e f g h) (z01 (some z3n) K) =
  z0f.Z11 N a i b c d e f g h (fun a i b c d e f g h => K .nrm (z4j u0 a i b c d e f g h)) (fun a e f g h b c d => K (.exit 1) (zch u0 a e f g h b c d)) :=
 z06 (fun k => z0f.Z12 N a i b c d e f g h k (fun a e f g h b c d => K (.exit 1) (zch u0 a e f g h b c d))) (by kernel_rfl) (f105t12 N u0 (K := z15 (fun σ => z4n N (z4e 407) zot σ (z01 (some z3n) K)) (z01 (some z3n) K)) ..) (fx9 fun a i b c d e f g h => f105t13 N u0 a i b c d e f g h K) (by kernel_rfl)
def y1f : z0m := .mk none (some z3n) zou .n
abbrev y16 {ρ : Type} (N M : Nat) (σ : St) (K : KT ρ) : Option ρ := z2h (fun σ K => z4n N (z4e 151) zou σ K) z3n M σ K
theorem zqw {ρ : Type} (N : Nat) (u0 : Value) (K : KT ρ) : ∀ (M : Nat) (a : LI) (i : Int) (b : List Int) (c d e f g h : Int), y16 N M (z4j u0 a i b c d e f g h) K =
 z0f.Z10L N (fun a e f g h b c d => K (.exit 1) (zch u0 a e f g h b c d)) M a i b c d e f g h
 | 0, _, _, _, _, _, _, _, _, _ => rfl
 | M + 1, a, i, b, c, d, e, f, g, h => z0w (fun k => z0f.Z11 N a i b c d e f g h k (fun a e f g h b c d => K (.exit 1) (zch u0 a e f g h b c d))) (f105t11 N u0 (K := z15 (fun σ => y16 N M σ K) K) ..) (fx9 fun a i b c d e f g h => zqw N u0 K M a i b c d e f g h) (by kernel_rfl)
theorem f105t10 N u0 a i b c d e f g h (K : KT ρ) : z4n N (z4e 87) y1f (z4j u0 a i b c d e f g h) (z01 (some zad) K) =
  z0f.Z10 N a i b c d e f g h (fun a e f g h b c d => K (.exit 1) (zch u0 a e f g h b c d)) :=
 z18 (by kernel_rfl) (zqw N u0 (z01 (some zad) K) N a i b c d e f g h) (by kernel_rfl)
def y18 : z0m := .mk (some zad) none y1f .n
theorem f105t9 N u0 a i b c d e f g h (K : KT ρ) : z4n N (z4e 55) y18 (z4j u0 a i b c d e f g h) (z01 (some zad) K) =
  z0f.Z9 N a i b c d e f g h (fun a e f g h b c d => K .nrm (zch u0 a e f g h b c d)) :=
 z0l (by kernel_rfl) (f105t10 N u0 (K := z1c 1 (z01 (some zad) K)) ..) (by kernel_rfl)
def f105p7 : z0m := .mk (some z3n) none .n y18
theorem f105t7 N u0 a b c d e f g h (K : KT ρ) : z4n N (z4e 23) f105p7 (zqx u0 a b c d e f g h) (z01 (some zad) K) =
  z0f.Z7 N a b c d e f g h (fun a e f g h b c d => K .nrm (zch u0 a e f g h b c d)) :=
 z06 (fun k => z0f.Z8 N a b c d e f g h k) (by kernel_rfl) (f105t8 N u0 (K := z15 (fun σ => z4n N (z4e 55) y18 σ (z01 (some zad) K)) (z01 (some zad) K)) ..) (fx9 fun a i b c d e f g h => f105t9 N u0 a i b c d e f g h K) (by kernel_rfl)
theorem f105t21 N u0 f a b g h c d e (K : KT ρ) : z4n N (z4e 31) .n (zch u0 f a b g h c d e) (z01 (some z6y) K) =
 z0f.Z21 N f a b g h c d e (fun i a b c d e => K .ret (zg9 u0 i a b c d e)) := by kernel_rfl
def y19 : z0m := .mk (some zad) none f105p7 .n
theorem f105t6 N u0 f a b c d e g h (K : KT ρ) : z4n N (z4e 15) y19 (zqx u0 f a b c d e g h) (z01 (some z6y) K) =
  z0f.Z6 N f a b c d e g h (fun i d e a b c => K .ret (zg9 u0 i d e a b c)) :=
 z06 (fun k => z0f.Z7 N f a b c d e g h k) (by kernel_rfl) (f105t7 N u0 (K := z15 (fun σ => z4n N (z4e 31) .n σ (z01 (some z6y) K)) (z01 (some z6y) K)) ..) (fx8 fun f d e g h a b c => f105t21 N u0 f d e g h a b c K) (by kernel_rfl)
def y1a : z0m := .mk (some f105l2) none .n y19
theorem f105t4 N u0 a b c d e (K : KT ρ) : z4n N (z4e 7) y1a (zib u0 a b c d e) (z01 (some z6y) K) =
  z0f.Z4 N a b c d e (fun f d e a b c => K .ret (zg9 u0 f d e a b c)) :=
 z06 (fun k => z0f.Z5 N a b c d e k) (by kernel_rfl) (f105t5 N u0 (K := z15 (fun σ => z4n N (z4e 15) y19 σ (z01 (some z6y) K)) (z01 (some z6y) K)) ..) (fx8 fun g a b c d e h i => f105t6 N u0 g a b c d e h i K) (by kernel_rfl)
def y1b : z0m := .mk (some zqz) none .n y1a
theorem f105t2 N u0 a b c d e (K : KT ρ) : z4n N (z4e 3) y1b (zib u0 a b c d e) (z01 (some z6y) K) =
  z0f.Z2 N a b c d e (fun f d e a b c => K .ret (zg9 u0 f d e a b c)) :=
 z06 (fun k => z0f.Z3 N a b c d e k (fun f d e a b c => K .ret (zg9 u0 f d e a b c))) (by kernel_rfl) (f105t3 N u0 (K := z15 (fun σ => z4n N (z4e 7) y1a σ (z01 (some z6y) K)) (z01 (some z6y) K)) ..) (fx5 fun a b c d e => f105t4 N u0 a b c d e K) (by kernel_rfl)
def y1g : z0m := .mk (some zqz) none .n y1b
theorem f105t0 N u0 b0 r0 (K : KT ρ) : z4n N (z4e 1) y1g (y17 u0 b0 r0) (z01 (some z6y) K) =
  z0f.Z0 N b0 r0 (fun f a b c d e => K .ret (zg9 u0 f a b c d e)) :=
 z06 (fun k => z0f.Z1 N b0 r0 k) (by kernel_rfl) (f105t1 N u0 (K := z15 (fun σ => z4n N (z4e 3) y1b σ (z01 (some z6y) K)) (z01 (some z6y) K)) ..) (fx5 fun c d e a b => f105t2 N u0 c d e a b K) (by kernel_rfl)
theorem f105m (N : Nat) (u0 : Value) (b0 : List Int) (r0 : Int × Int) : z4n N (z4e 1) y1g (y17 u0 b0 r0) (z01 (some z6y) (z6t tab y1h zmn true zqy Try.f105.results.toList)) = z0f.Z0 N b0 r0 (fun a b c f d e => some ([u0], ((d, e), ((), ((b, (c, a)), ()))))) :=
 (f105t0 N u0 b0 r0 (z6t tab y1h zmn true zqy Try.f105.results.toList)).trans (by kernel_rfl)
theorem f105ok (h : z0f.Spec) : z2c Try.prog 105 e105 :=
 z2g (k := y1h) (ps := zmn) (rs := zqy) (back := true) (c := (z4e 1)) (pl := y1g) (je := (some z6y)) (B := f105B) Try.func105 (by kernel_rfl) (by kernel_rfl) (by kernel_rfl) z3b f105GOk (by kernel_rfl) (by kernel_rfl) (by kernel_rfl) fun lit X hl hb1 hb2 hp => by
  obtain ⟨⟨⟨b0, _⟩, r0⟩, _⟩ := X
  match lit, hl with
  | [u0], _ =>
   obtain ⟨N, h⟩ := h [u0] b0 r0 hb1.1 hp
   exact ⟨N, (f105m N u0 b0 r0).trans (h N (Nat.le_refl N))⟩
theorem e105ok : z2c Try.prog 105 e105 := f105ok z0f.ok
end Go.Fw
namespace Go.Fw
variable {ρ : Type}
open Go.Proofs
def zfm : Sig := ⟨[⟨.int .i64, false, false⟩], [⟨.str, false, false⟩]⟩
def e137 : z2y := ⟨zfm, (some fun X => z0b.P X.1), fun X => ((), ((z0b.g X.1), ()))⟩
def f137G : Gm := z27
theorem f137GOk : GOk Try.prog f137G := GOk.nil
def z3z : z0d := ⟨[], [], [], [], []⟩
def zyb (a : Int) : St := z2p zfm.ps (a, ())
def zya (a : Int) : St := z1i [(0, xi a)] [] []
def f137l1 : z0d := ⟨[0], [], [], [], []⟩
def za6 (a : List Int) (b : Int) : St := z1i [(0, xi b), (3, xo 1000192)] [] [(1000192, (⟨5, .int .u8, a, true, false⟩ : Row))]
def zc8 : z0d := ⟨[0, 3], [], [], [], [(⟨false, 3, 0⟩, 1000192)]⟩
def zfo (a : List Int) (b c : Int) : St := z1i [(0, xi b), (3, xo 1000192), (4, xi c)] [] [(1000192, (⟨5, .int .u8, a, true, false⟩ : Row))]
def zm9 : z0d := ⟨[0, 3, 4], [], [], [], [(⟨false, 3, 0⟩, 1000192)]⟩
def zy9 (a b : List Int) (c : Int) : St := z1i [(0, xi c), (3, xo 1000192), (6, xo 1000384)] [] [(1000192, (⟨5, .int .u8, a, true, false⟩ : Row)), (1000384, (⟨5, .int .u8, b, true, false⟩ : Row))]
def f137l4 : z0d := ⟨[0, 3, 6], [], [], [], [(⟨false, 3, 0⟩, 1000192), (⟨false, 6, 0⟩, 1000384)]⟩
def zq8 (a b : List Int) : St := z1i [(3, xo 1000192), (6, xo 1000384)] [] [(1000192, (⟨5, .int .u8, a, true, false⟩ : Row)), (1000384, (⟨5, .int .u8, b, true, false⟩ : Row))]
def f137l5 : z0d := ⟨[3, 6], [], [], [], [(⟨false, 3, 0⟩, 1000192), (⟨false, 6, 0⟩, 1000384)]⟩
def zi0 (a b : List Int) (c : Int) : St := z1i [(3, xo 1000192), (6, xo 1000384), (7, xi c)] [] [(1000192, (⟨5, .int .u8, a, true, false⟩ : Row)), (1000384, (⟨5, .int .u8, b, true, false⟩ : Row))]
def zm8 : z0d := ⟨[3, 6, 7], [], [], [], [(⟨false, 3, 0⟩, 1000192), (⟨false, 6, 0⟩, 1000384)]⟩
def zfn (a : List Int) : St := z1i [(6, xo 1000384)] [] [(1000384, (⟨5, .int .u8, a, true, false⟩ : Row))]
def za7 : z0d := ⟨[6], [], [], [], [(⟨false, 6, 0⟩, 1000384)]⟩
def zdp (a : ByteArray) : St := z1i [(2, .c (.str a))] [] []
def f137l8 : z0d := ⟨[2], [], [], [], []⟩
def f137B : Nat → Option z0d := z1g [(0, zc8), (2, za7), (1000000, f137l8)]
abbrev z4u {ρ : Type} (N : Nat) (c : Code) (p : z0m) (σ : St) (K : KT ρ) : Option ρ := z1n f137G tab f137B N c p σ K
def z4l (n : Nat) : Code := z30 99 (z2a Try.f137) n
theorem f137t1 N a (K : KT ρ) : z4u N (z4l 2) .n (zyb a) (z01 (some f137l1) K) =
 z0b.Z1 N a (fun a => K .nrm (zya a)) := by kernel_rfl
theorem f137t3 N a (K : KT ρ) : z4u N (z4l 5) .n (zya a) (z01 (some zc8) K) =
 z0b.Z3 N a (fun b a => K .nrm (za6 b a)) := by kernel_rfl
theorem f137t5 N a b (K : KT ρ) : z4u N (z4l 11) .n (za6 a b) (z01 (some zm9) K) =
 z0b.Z5 N a b (fun a b c => K .nrm (zfo a b c)) := by kernel_rfl
theorem f137t9 N a b c (K : KT ρ) : z4u N (z4l 71) .n (zfo a b c) (z01 (some zm9) K) =
 z0b.Z9 N a b c (fun a b c => K .nrm (zfo a b c)) (fun a b => K (.exit 0) (za6 a b)) := by kernel_rfl
def f137p8 : z0m := .mk none (some zm9) .n .n
abbrev f137w8 {ρ : Type} (N M : Nat) (σ : St) (K : KT ρ) : Option ρ := z2h (fun σ K => z4u N (z4l 71) .n σ K) zm9 M σ K
theorem zy8 {ρ : Type} (N : Nat) (K : KT ρ) : ∀ (M : Nat) (a : List Int) (b c : Int), f137w8 N M (zfo a b c) K =
 z0b.Z8L N (fun a b => K (.exit 0) (za6 a b)) M a b c
 | 0, _, _, _ => rfl
 | M + 1, a, b, c => z0w (fun k => z0b.Z9 N a b c k (fun a b => K (.exit 0) (za6 a b))) (f137t9 N (K := z15 (fun σ => f137w8 N M σ K) K) ..) (fx3 fun a b c => zy8 N K M a b c) (by kernel_rfl)
theorem f137t8 N a b c (K : KT ρ) : z4u N (z4l 39) f137p8 (zfo a b c) (z01 (some zc8) K) =
  z0b.Z8 N a b c (fun a b => K (.exit 0) (za6 a b)) :=
 z18 (by kernel_rfl) (zy8 N (z01 (some zc8) K) N a b c) (by kernel_rfl)
def f137p7 : z0m := .mk (some zc8) none f137p8 .n
theorem f137t7 N a b c (K : KT ρ) : z4u N (z4l 23) f137p7 (zfo a b c) (z01 (some zc8) K) =
  z0b.Z7 N a b c (fun a b => K .nrm (za6 a b)) :=
 z0l (by kernel_rfl) (f137t8 N (K := z1c 0 (z01 (some zc8) K)) ..) (by kernel_rfl)
theorem f137t11 N a b (K : KT ρ) : z4u N (z4l 47) .n (za6 a b) (z01 (some f137l4) K) =
 z0b.Z11 N a b (fun a c b => K .nrm (zy9 a c b)) := by kernel_rfl
theorem f137t13 N a b c (K : KT ρ) : z4u N (z4l 95) .n (zy9 a b c) (z01 (some f137l5) K) =
 z0b.Z13 N a b c (fun a b => K .nrm (zq8 a b)) := by kernel_rfl
theorem f137t16 N a b (K : KT ρ) : z4u N (z4l 319) .n (zq8 a b) (z01 (some zm8) K) =
 z0b.Z16 N a b (fun a b c => K .nrm (zi0 a b c)) := by kernel_rfl
theorem f137t19 N b a c (K : KT ρ) : z4u N (z4l 1215) .n (zi0 b a c) (z01 (some zm8) K) =
 z0b.Z19 N b a c (fun b a c => K .nrm (zi0 b a c)) (fun a => K (.exit 2) (zfn a)) := by kernel_rfl
def zyf : z0m := .mk none (some zm8) .n .n
abbrev zy7 {ρ : Type} (N M : Nat) (σ : St) (K : KT ρ) : Option ρ := z2h (fun σ K => z4u N (z4l 1215) .n σ K) zm8 M σ K
theorem zq7 {ρ : Type} (N : Nat) (K : KT ρ) : ∀ (M : Nat) (b a : List Int) (c : Int), zy7 N M (zi0 b a c) K =
 z0b.Z18L N (fun a => K (.exit 2) (zfn a)) M b a c
 | 0, _, _, _ => rfl
 | M + 1, b, a, c => z0w (fun k => z0b.Z19 N b a c k (fun a => K (.exit 2) (zfn a))) (f137t19 N (K := z15 (fun σ => zy7 N M σ K) K) ..) (fx3 fun b a c => zq7 N K M b a c) (by kernel_rfl)
theorem f137t18 N b a c (K : KT ρ) : z4u N (z4l 703) zyf (zi0 b a c) (z01 (some za7) K) =
  z0b.Z18 N b a c (fun a => K (.exit 2) (zfn a)) :=
 z18 (by kernel_rfl) (zq7 N (z01 (some za7) K) N b a c) (by kernel_rfl)
def znz : z0m := .mk (some za7) none zyf .n
theorem f137t17 N b a c (K : KT ρ) : z4u N (z4l 447) znz (zi0 b a c) (z01 (some za7) K) =
  z0b.Z17 N b a c (fun a => K .nrm (zfn a)) :=
 z0l (by kernel_rfl) (f137t18 N (K := z1c 2 (z01 (some za7) K)) ..) (by kernel_rfl)
def zyg : z0m := .mk (some zm8) none .n znz
theorem f137t15 N b a (K : KT ρ) : z4u N (z4l 191) zyg (zq8 b a) (z01 (some za7) K) =
  z0b.Z15 N b a (fun a => K .nrm (zfn a)) :=
 z06 (fun k => z0b.Z16 N b a k) (by kernel_rfl) (f137t16 N (K := z15 (fun σ => z4u N (z4l 447) znz σ (z01 (some za7) K)) (z01 (some za7) K)) ..) (fx3 fun b a c => f137t17 N b a c K) (by kernel_rfl)
theorem f137t20 N a (K : KT ρ) : z4u N (z4l 255) .n (zfn a) (z01 (some z3z) K) =
 z0b.Z20 N a (fun b => K .ret (zdp b)) := by kernel_rfl
def zo0 : z0m := .mk (some za7) none zyg .n
theorem f137t14 N b a (K : KT ρ) : z4u N (z4l 127) zo0 (zq8 b a) (z01 (some z3z) K) =
  z0b.Z14 N b a (fun c => K .ret (zdp c)) :=
 z06 (fun k => z0b.Z15 N b a k) (by kernel_rfl) (f137t15 N (K := z15 (fun σ => z4u N (z4l 255) .n σ (z01 (some z3z) K)) (z01 (some z3z) K)) ..) (funext fun a => f137t20 N a K) (by kernel_rfl)
def zo1 : z0m := .mk (some f137l5) none .n zo0
theorem f137t12 N a b c (K : KT ρ) : z4u N (z4l 63) zo1 (zy9 a b c) (z01 (some z3z) K) =
  z0b.Z12 N a b c (fun d => K .ret (zdp d)) :=
 z06 (fun k => z0b.Z13 N a b c k) (by kernel_rfl) (f137t13 N (K := z15 (fun σ => z4u N (z4l 127) zo0 σ (z01 (some z3z) K)) (z01 (some z3z) K)) ..) (fx2 fun a b => f137t14 N a b K) (by kernel_rfl)
def zo2 : z0m := .mk (some f137l4) none .n zo1
theorem f137t10 N a b (K : KT ρ) : z4u N (z4l 31) zo2 (za6 a b) (z01 (some z3z) K) =
  z0b.Z10 N a b (fun c => K .ret (zdp c)) :=
 z06 (fun k => z0b.Z11 N a b k) (by kernel_rfl) (f137t11 N (K := z15 (fun σ => z4u N (z4l 63) zo1 σ (z01 (some z3z) K)) (z01 (some z3z) K)) ..) (fx3 fun a d b => f137t12 N a d b K) (by kernel_rfl)
def zyc : z0m := .mk (some zc8) none f137p7 zo2
theorem f137t6 N a b c (K : KT ρ) : z4u N (z4l 15) zyc (zfo a b c) (z01 (some z3z) K) =
  z0b.Z6 N a b c (fun d => K .ret (zdp d)) :=
 z06 (fun k => z0b.Z7 N a b c k) (by kernel_rfl) (f137t7 N (K := z15 (fun σ => z4u N (z4l 31) zo2 σ (z01 (some z3z) K)) (z01 (some z3z) K)) ..) (fx2 fun a b => f137t10 N a b K) (by kernel_rfl)
def zyd : z0m := .mk (some zm9) none .n zyc
theorem f137t4 N a b (K : KT ρ) : z4u N (z4l 7) zyd (za6 a b) (z01 (some z3z) K) =
  z0b.Z4 N a b (fun c => K .ret (zdp c)) :=
 z06 (fun k => z0b.Z5 N a b k) (by kernel_rfl) (f137t5 N (K := z15 (fun σ => z4u N (z4l 15) zyc σ (z01 (some z3z) K)) (z01 (some z3z) K)) ..) (fx3 fun a b d => f137t6 N a b d K) (by kernel_rfl)
def zye : z0m := .mk (some zc8) none .n zyd
theorem f137t2 N a (K : KT ρ) : z4u N (z4l 3) zye (zya a) (z01 (some z3z) K) =
  z0b.Z2 N a (fun b => K .ret (zdp b)) :=
 z06 (fun k => z0b.Z3 N a k) (by kernel_rfl) (f137t3 N (K := z15 (fun σ => z4u N (z4l 7) zyd σ (z01 (some z3z) K)) (z01 (some z3z) K)) ..) (fx2 fun c a => f137t4 N c a K) (by kernel_rfl)
def zyh : z0m := .mk (some f137l1) none .n zye
theorem f137t0 N a (K : KT ρ) : z4u N (z4l 1) zyh (zyb a) (z01 (some z3z) K) =
  z0b.Z0 N a (fun b => K .ret (zdp b)) :=
 z06 (fun k => z0b.Z1 N a k) (by kernel_rfl) (f137t1 N (K := z15 (fun σ => z4u N (z4l 3) zye σ (z01 (some z3z) K)) (z01 (some z3z) K)) ..) (funext fun a => f137t2 N a K) (by kernel_rfl)
theorem f137m (N : Nat) (a : Int) : z4u N (z4l 1) zyh (zyb a) (z01 (some z3z) (z47 tab zfm Try.f137.results.toList)) = z0b.Z0 N a (fun b => some ((), (b, ()))) :=
 (f137t0 N a (z47 tab zfm Try.f137.results.toList)).trans (by kernel_rfl)
theorem f137ok (h : z0b.Spec) : z0t Try.prog 137 e137 :=
 z0p (sig := zfm) (c := (z4l 1)) (pl := zyh) (je := (some z3z)) (B := f137B) Try.func137 (by kernel_rfl) (by kernel_rfl) (by kernel_rfl) z3b f137GOk (by kernel_rfl) (by kernel_rfl) (by kernel_rfl) (by kernel_rfl) fun X hb hp => by
  obtain ⟨a, _⟩ := X
  obtain ⟨N, h⟩ := h a hp
  exact ⟨N, (f137m N a).trans (h N (Nat.le_refl N))⟩
theorem e137ok : z0t Try.prog 137 e137 := f137ok z0b.ok
end Go.Fw
namespace Go.Fw
variable {ρ : Type}
open Go.Proofs
def zzt : zd9 := ⟨113, [(5, .int .u8)], .pair (.int .i64) (.int .i64)⟩
def zmd : List PT := [⟨.int .i64, false, false⟩]
def zqj : List PT := [⟨.pair (.int .i64) (.pair (.int .i64) (.sl 3 (.int .i64))), true, false⟩, ⟨.str, false, false⟩]
def e126 : z4w := ⟨zzt, zmd, true, zqj, (some fun X => spec_dTree.P X.1.1.1 X.1.2 X.2.1), fun X => ((spec_dTree.g X.1.1.1 X.1.2 X.2.1).1, ((), ((spec_dTree.g X.1.1.1 X.1.2 X.2.1).2.1, ((spec_dTree.g X.1.1.1 X.1.2 X.2.1).2.2, ()))))⟩
def f126G : Gm := z6a (addV (z6a (addV z27 69 e69) 124 e124) 125 e125) 137 e137
theorem f126GOk : GOk Try.prog f126G := ((((GOk.nil).addV zso (by kernel_rfl)).add e124ok (by kernel_rfl)).addV e125ok (by kernel_rfl)).add e137ok (by kernel_rfl)
def z3l : z0d := ⟨[], [], [], [], []⟩
def zz6 (u0 : Value) (b0 : List Int) (r0 : Int × Int) (a : Int) : St := z37 zzt zmd [u0] (((b0, ()), r0), (a, ()))
def zz5 (u0 : Value) (a : Int) (b : List Int) (c d e f : Int) : St := z1i [(0, xb 100000), (1, xi a), (4, xb 4), (100000, xb 100000)] [(100000, (113, [.bor u0 5 (.int .u8) b, yi c, yi d])), (4, (30, [yi e, yi f, .nil]))] []
def f126l1 : z0d := ⟨[0, 1, 4, 100000], [100000, 4], [], [], []⟩
def zz4 (u0 : Value) (a b : Int) (c : List Int) (d e f g : Int) : St := z1i [(0, xb 100000), (1, xi a), (4, xb 4), (6, xi b), (100000, xb 100000)] [(100000, (113, [.bor u0 5 (.int .u8) c, yi d, yi e])), (4, (30, [yi f, yi g, .nil]))] []
def f126l2 : z0d := ⟨[0, 1, 4, 6, 100000], [100000, 4], [], [], []⟩
def zi4 (u0 : Value) (a b c : Int) (d : List Int) (e f g h : Int) : St := z1i [(0, xb 100000), (1, xi a), (4, xb 4), (6, xi b), (7, xi c), (100000, xb 100000)] [(100000, (113, [.bor u0 5 (.int .u8) d, yi e, yi f])), (4, (30, [yi g, yi h, .nil]))] []
def zqk : z0d := ⟨[0, 1, 4, 6, 7, 100000], [100000, 4], [], [], []⟩
def zqi (u0 : Value) (a b : Int) (c : List Int) (d e f g : Int) : St := z1i [(0, xb 100000), (4, xb 4), (6, xi a), (7, xi b), (100000, xb 100000)] [(100000, (113, [.bor u0 5 (.int .u8) c, yi d, yi e])), (4, (30, [yi f, yi g, .nil]))] []
def f126l4 : z0d := ⟨[0, 4, 6, 7, 100000], [100000, 4], [], [], []⟩
def zqh (u0 : Value) (a b c : Int) (d : List Int) (e f g h : Int) : St := z1i [(0, xb 100000), (4, xb 4), (6, xi a), (7, xi b), (64, xi c), (100000, xb 100000)] [(100000, (113, [.bor u0 5 (.int .u8) d, yi e, yi f])), (4, (30, [yi g, yi h, .nil]))] []
def f126l5 : z0d := ⟨[0, 4, 6, 7, 64, 100000], [100000, 4], [], [], []⟩
def zi3 (u0 : Value) (a b c : Int) (d : Bool) (e : List Int) (f g h i : Int) : St := z1i [(0, xb 100000), (4, xb 4), (6, xi a), (7, xi b), (64, xi c), (65, xB d), (100000, xb 100000)] [(100000, (113, [.bor u0 5 (.int .u8) e, yi f, yi g])), (4, (30, [yi h, yi i, .nil]))] []
def f126l6 : z0d := ⟨[0, 4, 6, 7, 64, 65, 100000], [100000, 4], [], [], []⟩
def z9a (u0 : Value) (a : LI) (b c : Int) (d : List Int) (e f g h i j : Int) : St := z1i [(0, xb 100000), (4, xb 4), (6, xi b), (7, xi c), (8, xb 8), (100000, xb 100000)] [(100000, (113, [.bor u0 5 (.int .u8) d, yi e, yi f])), (4, (30, [yi g, yi h, .nil])), (8, (30, [yi i, yi j, .own 20000514]))] [(20000514, (⟨3, .int .i64, a, true, false⟩ : Row))]
def z8o : z0d := ⟨[0, 4, 6, 7, 8, 100000], [100000, 4, 8], [], [], [(⟨true, 8, 2⟩, 20000514)]⟩
def zi2 (u0 : Value) (a : LI) (b c d : Int) (e : List Int) (f g h i j l : Int) : St := z1i [(0, xb 100000), (4, xb 4), (6, xi b), (7, xi c), (8, xb 8), (9, xi d), (100000, xb 100000)] [(100000, (113, [.bor u0 5 (.int .u8) e, yi f, yi g])), (4, (30, [yi h, yi i, .nil])), (8, (30, [yi j, yi l, .own 20000514]))] [(20000514, (⟨3, .int .i64, a, true, false⟩ : Row))]
def zme : z0d := ⟨[0, 4, 6, 7, 8, 9, 100000], [100000, 4, 8], [], [], [(⟨true, 8, 2⟩, 20000514)]⟩
def zmc (u0 : Value) (a b : Int) (c : Bool) (d : List Int) (e f g h : Int) : St := z1i [(0, xb 100000), (4, xb 4), (7, xi a), (64, xi b), (110, xB c), (100000, xb 100000)] [(100000, (113, [.bor u0 5 (.int .u8) d, yi e, yi f])), (4, (30, [yi g, yi h, .nil]))] []
def f126l9 : z0d := ⟨[0, 4, 7, 64, 110, 100000], [100000, 4], [], [], []⟩
def zft (u0 : Value) (a b : Int) (c : Bool) (d : List Int) (e f g h : Int) : St := z1i [(0, xb 100000), (4, xb 4), (7, xi a), (64, xi b), (119, xB c), (100000, xb 100000)] [(100000, (113, [.bor u0 5 (.int .u8) d, yi e, yi f])), (4, (30, [yi g, yi h, .nil]))] []
def zzs : z0d := ⟨[0, 4, 7, 64, 119, 100000], [100000, 4], [], [], []⟩
def zfs (u0 : Value) (a b : Int) (c : Bool) (d : List Int) (e f g h : Int) : St := z1i [(0, xb 100000), (4, xb 4), (7, xi a), (64, xi b), (126, xB c), (100000, xb 100000)] [(100000, (113, [.bor u0 5 (.int .u8) d, yi e, yi f])), (4, (30, [yi g, yi h, .nil]))] []
def zzr : z0d := ⟨[0, 4, 7, 64, 126, 100000], [100000, 4], [], [], []⟩
def zjn (u0 : Value) (a : LI) (b : List Int) (c d e f g h : Int) : St := z1i [(0, xb 100000), (4, xb 4), (12, xb 12), (100000, xb 100000)] [(100000, (113, [.bor u0 5 (.int .u8) b, yi c, yi d])), (4, (30, [yi e, yi f, .nil])), (12, (30, [yi g, yi h, .own 20000770]))] [(20000770, (⟨3, .int .i64, a, true, false⟩ : Row))]
def zzq : z0d := ⟨[0, 4, 12, 100000], [100000, 4, 12], [], [], [(⟨true, 12, 2⟩, 20000770)]⟩
def zd3 (u0 : Value) (a : LI) (b : Int) (c : List Int) (d e f g h i : Int) : St := z1i [(0, xb 100000), (4, xb 4), (12, xb 12), (13, xi b), (100000, xb 100000)] [(100000, (113, [.bor u0 5 (.int .u8) c, yi d, yi e])), (4, (30, [yi f, yi g, .nil])), (12, (30, [yi h, yi i, .own 20000770]))] [(20000770, (⟨3, .int .i64, a, true, false⟩ : Row))]
def zfv : z0d := ⟨[0, 4, 12, 13, 100000], [100000, 4, 12], [], [], [(⟨true, 12, 2⟩, 20000770)]⟩
def zb8 (u0 : Value) (a : LI) (b c d e : Int) (f : List Int) (g h : Int) : St := z1i [(4, xb 4), (12, xb 12), (100000, xb 100000)] [(4, (30, [yi b, yi c, .nil])), (12, (30, [yi d, yi e, .own 20000770])), (100000, (113, [.bor u0 5 (.int .u8) f, yi g, yi h]))] [(20000770, (⟨3, .int .i64, a, true, false⟩ : Row))]
def z7k : z0d := ⟨[4, 12, 100000], [4, 12, 100000], [], [], [(⟨true, 12, 2⟩, 20000770)]⟩
def z5v (u0 : Value) (a : Int) (b : List Int) (c d e f : Int) : St := z1i [(0, xb 100000), (4, xb 4), (7, xi a), (100000, xb 100000)] [(100000, (113, [.bor u0 5 (.int .u8) b, yi c, yi d])), (4, (30, [yi e, yi f, .nil]))] []
def z1z : z0d := ⟨[0, 4, 7, 100000], [100000, 4], [], [], []⟩
def zjm (u0 : Value) (a : LI) (b : Int) (c : List Int) (d e f g h i : Int) : St := z1i [(0, xb 100000), (4, xb 4), (7, xi b), (16, xb 16), (100000, xb 100000)] [(100000, (113, [.bor u0 5 (.int .u8) c, yi d, yi e])), (4, (30, [yi f, yi g, .nil])), (16, (30, [yi h, yi i, .own 20001026]))] [(20001026, (⟨3, .int .i64, a, true, false⟩ : Row))]
def zzp : z0d := ⟨[0, 4, 7, 16, 100000], [100000, 4, 16], [], [], [(⟨true, 16, 2⟩, 20001026)]⟩
def zd2 (u0 : Value) (a : LI) (b c : Int) (d : List Int) (e f g h i j : Int) : St := z1i [(0, xb 100000), (4, xb 4), (7, xi b), (16, xb 16), (17, xi c), (100000, xb 100000)] [(100000, (113, [.bor u0 5 (.int .u8) d, yi e, yi f])), (4, (30, [yi g, yi h, .nil])), (16, (30, [yi i, yi j, .own 20001026]))] [(20001026, (⟨3, .int .i64, a, true, false⟩ : Row))]
def zfu : z0d := ⟨[0, 4, 7, 16, 17, 100000], [100000, 4, 16], [], [], [(⟨true, 16, 2⟩, 20001026)]⟩
def zb7 (u0 : Value) (a : LI) (b c d e f : Int) (g : List Int) (h i : Int) : St := z1i [(4, xb 4), (7, xi b), (16, xb 16), (100000, xb 100000)] [(4, (30, [yi c, yi d, .nil])), (16, (30, [yi e, yi f, .own 20001026])), (100000, (113, [.bor u0 5 (.int .u8) g, yi h, yi i]))] [(20001026, (⟨3, .int .i64, a, true, false⟩ : Row))]
def z7j : z0d := ⟨[4, 7, 16, 100000], [4, 16, 100000], [], [], [(⟨true, 16, 2⟩, 20001026)]⟩
def z2m (u0 : Value) (a : LI) (b : ByteArray) (d e : Int) (f : List Int) (g h : Int) : St := z1i [(4, xb 4), (5, .c (.str b)), (100000, xb 100000)] [(4, (30, [yi d, yi e, .own 20000258])), (100000, (113, [.bor u0 5 (.int .u8) f, yi g, yi h]))] [(20000258, (⟨3, .int .i64, a, true, false⟩ : Row))]
def f126l19 : z0d := ⟨[4, 5, 100000], [4, 100000], [], [], [(⟨true, 4, 2⟩, 20000258)]⟩
def f126B : Nat → Option z0d := z1g [(1, z8o), (3, z7k), (0, z1z), (5, z7j), (1000000, f126l19)]
abbrev z22 {ρ : Type} (N : Nat) (c : Code) (p : z0m) (σ : St) (K : KT ρ) : Option ρ := z1n f126G tab f126B N c p σ K
def z21 (n : Nat) : Code := z30 99 (z2a Try.f126) n
theorem f126t1 N u0 b0 r0 a (K : KT ρ) : z22 N (z21 2) .n (zz6 u0 b0 r0 a) (z01 (some f126l1) K) =
 spec_dTree.Z1 N b0 r0 a (fun a b c d e f => K .nrm (zz5 u0 a b c d e f)) := by kernel_rfl
theorem f126t3 N u0 a b c d e f (K : KT ρ) : z22 N (z21 5) .n (zz5 u0 a b c d e f) (z01 (some f126l2) K) =
 spec_dTree.Z3 N a b c d e f (fun a g b c d e f => K .nrm (zz4 u0 a g b c d e f)) := by kernel_rfl
theorem f126t5 N u0 a b c d e f g (K : KT ρ) : z22 N (z21 11) .n (zz4 u0 a b c d e f g) (z01 (some zqk) K) =
 spec_dTree.Z5 N a b c d e f g (fun a b h c d e f g => K .nrm (zi4 u0 a b h c d e f g)) := by kernel_rfl
theorem f126t7 N u0 a b c d e f g h (K : KT ρ) : z22 N (z21 23) .n (zi4 u0 a b c d e f g h) (z01 (some zqk) K) =
 spec_dTree.Z7 N a b c d e f g h (fun a b c d e f g h => K .nrm (zi4 u0 a b c d e f g h)) := by kernel_rfl
theorem f126t9 N u0 h a b c d e f g (K : KT ρ) : z22 N (z21 47) .n (zi4 u0 h a b c d e f g) (z01 (some f126l4) K) =
 spec_dTree.Z9 N h a b c d e f g (fun a b c d e f g => K .nrm (zqi u0 a b c d e f g)) := by kernel_rfl
theorem f126t12 N u0 a b c d e f g (K : KT ρ) : z22 N (z21 159) .n (zqi u0 a b c d e f g) (z01 (some f126l5) K) =
 spec_dTree.Z12 N a b c d e f g (fun a b h c d e f g => K .nrm (zqh u0 a b h c d e f g)) := by kernel_rfl
theorem f126t15 N u0 a b c d e f g h (K : KT ρ) : z22 N (z21 607) .n (zqh u0 a b c d e f g h) (z01 (some f126l6) K) =
 spec_dTree.Z15 N a b c d e f g h (fun a b c i d e f g h => K .nrm (zi3 u0 a b c i d e f g h)) := by kernel_rfl
theorem f126t18 N u0 a b h i c d e f g (K : KT ρ) : z22 N (z21 2399) .n (zi3 u0 a b h i c d e f g) (z01 (some z8o) K) =
 spec_dTree.Z18 N a b h i c d e f g (fun j a b c d e f g l m => K .nrm (z9a u0 j a b c d e f g l m)) := by kernel_rfl
theorem f126t21 N u0 a b c d e f g h i j (K : KT ρ) : z22 N (z21 9567) .n (z9a u0 a b c d e f g h i j) (z01 (some zme) K) =
 spec_dTree.Z21 N a b c d e f g h i j (fun a b c l d e f g h i j => K .nrm (zi2 u0 a b c l d e f g h i j)) := by kernel_rfl
theorem f126t24 N u0 a b c l d e f g h i j (K : KT ρ) : z22 N (z21 38239) .n (zi2 u0 a b c l d e f g h i j) (z01 (some zme) K) =
 spec_dTree.Z24 N a b c l d e f g h i j (fun a b c l d e f g h i j => K .nrm (zi2 u0 a b c l d e f g h i j)) (fun a b c d e f g h i j => K (.exit 1) (z9a u0 a b c d e f g h i j)) := by kernel_rfl
def zzi : z0m := .mk none (some zme) .n .n
abbrev zz3 {ρ : Type} (N M : Nat) (σ : St) (K : KT ρ) : Option ρ := z2h (fun σ K => z22 N (z21 38239) .n σ K) zme M σ K
theorem zqg {ρ : Type} (N : Nat) (u0 : Value) (K : KT ρ) : ∀ (M : Nat) (a : LI) (b c l : Int) (d : List Int) (e f g h i j : Int), zz3 N M (zi2 u0 a b c l d e f g h i j) K =
 spec_dTree.Z23L N (fun a b c d e f g h i j => K (.exit 1) (z9a u0 a b c d e f g h i j)) M a b c l d e f g h i j
 | 0, _, _, _, _, _, _, _, _, _, _, _ => rfl
 | M + 1, a, b, c, l, d, e, f, g, h, i, j => z0w (fun k => spec_dTree.Z24 N a b c l d e f g h i j k (fun a b c d e f g h i j => K (.exit 1) (z9a u0 a b c d e f g h i j))) (f126t24 N u0 (K := z15 (fun σ => zz3 N M σ K) K) ..) (zq0 fun a b c l d e f g h i j => zqg N u0 K M a b c l d e f g h i j) (by kernel_rfl)
theorem f126t23 N u0 a b c l d e f g h i j (K : KT ρ) : z22 N (z21 21855) zzi (zi2 u0 a b c l d e f g h i j) (z01 (some z8o) K) =
  spec_dTree.Z23 N a b c l d e f g h i j (fun a b c d e f g h i j => K (.exit 1) (z9a u0 a b c d e f g h i j)) :=
 z18 (by kernel_rfl) (zqg N u0 (z01 (some z8o) K) N a b c l d e f g h i j) (by kernel_rfl)
def zof : z0m := .mk (some z8o) none zzi .n
theorem f126t22 N u0 a b c l d e f g h i j (K : KT ρ) : z22 N (z21 13663) zof (zi2 u0 a b c l d e f g h i j) (z01 (some z8o) K) =
  spec_dTree.Z22 N a b c l d e f g h i j (fun a b c d e f g h i j => K .nrm (z9a u0 a b c d e f g h i j)) :=
 z0l (by kernel_rfl) (f126t23 N u0 (K := z1c 1 (z01 (some z8o) K)) ..) (by kernel_rfl)
def zzj : z0m := .mk (some zme) none .n zof
theorem f126t20 N u0 a b c d e f g h i j (K : KT ρ) : z22 N (z21 5471) zzj (z9a u0 a b c d e f g h i j) (z01 (some z8o) K) =
  spec_dTree.Z20 N a b c d e f g h i j (fun a b c d e f g h i j => K .nrm (z9a u0 a b c d e f g h i j)) :=
 z06 (fun k => spec_dTree.Z21 N a b c d e f g h i j k) (by kernel_rfl) (f126t21 N u0 (K := z15 (fun σ => z22 N (z21 13663) zof σ (z01 (some z8o) K)) (z01 (some z8o) K)) ..) (zq0 fun a b c l d e f g h i j => f126t22 N u0 a b c l d e f g h i j K) (by kernel_rfl)
theorem f126t25 N u0 f g h a b c d e i j (K : KT ρ) : z22 N (z21 7519) .n (z9a u0 f g h a b c d e i j) (z01 (some z1z) K) =
 spec_dTree.Z25 N f g h a b c d e i j (fun l m d e a b c => K .ret (z2m u0 l m d e a b c)) := by kernel_rfl
def zog : z0m := .mk (some z8o) none zzj .n
theorem f126t19 N u0 f g h a b c d e i j (K : KT ρ) : z22 N (z21 3423) zog (z9a u0 f g h a b c d e i j) (z01 (some z1z) K) =
  spec_dTree.Z19 N f g h a b c d e i j (fun l m d e a b c => K .ret (z2m u0 l m d e a b c)) :=
 z06 (fun k => spec_dTree.Z20 N f g h a b c d e i j k) (by kernel_rfl) (f126t20 N u0 (K := z15 (fun σ => z22 N (z21 7519) .n σ (z01 (some z1z) K)) (z01 (some z1z) K)) ..) (zc2 fun f g h a b c d e i j => f126t25 N u0 f g h a b c d e i j K) (by kernel_rfl)
def zzl : z0m := .mk (some z8o) none .n zog
theorem f126t17 N u0 f g h i a b c d e (K : KT ρ) : z22 N (z21 1375) zzl (zi3 u0 f g h i a b c d e) (z01 (some z1z) K) =
  spec_dTree.Z17 N f g h i a b c d e (fun j l d e a b c => K .ret (z2m u0 j l d e a b c)) :=
 z06 (fun k => spec_dTree.Z18 N f g h i a b c d e k) (by kernel_rfl) (f126t18 N u0 (K := z15 (fun σ => z22 N (z21 3423) zog σ (z01 (some z1z) K)) (z01 (some z1z) K)) ..) (zc2 fun m f g a b c d e o p => f126t19 N u0 m f g a b c d e o p K) (by kernel_rfl)
theorem f126t27 N u0 h a b i c d e f g (K : KT ρ) : z22 N (z21 2911) .n (zi3 u0 h a b i c d e f g) (z01 (some f126l9) K) =
 spec_dTree.Z27 N h a b i c d e f g (fun a b j c d e f g => K .nrm (zmc u0 a b j c d e f g)) := by kernel_rfl
theorem f126t29 N u0 f g h a b c d e (K : KT ρ) : z22 N (z21 5983) .n (zmc u0 f g h a b c d e) (z01 (some z1z) K) =
 spec_dTree.Z29 N f g h a b c d e (fun i j d e a b c => K .ret (z2m u0 i j d e a b c)) := by kernel_rfl
theorem f126t31 N u0 a b h c d e f g (K : KT ρ) : z22 N (z21 12127) .n (zmc u0 a b h c d e f g) (z01 (some zzs) K) =
 spec_dTree.Z31 N a b h c d e f g (fun a b i c d e f g => K .nrm (zft u0 a b i c d e f g)) := by kernel_rfl
theorem f126t33 N u0 f g h a b c d e (K : KT ρ) : z22 N (z21 24415) .n (zft u0 f g h a b c d e) (z01 (some z1z) K) =
 spec_dTree.Z33 N f g h a b c d e (fun i j d e a b c => K .ret (z2m u0 i j d e a b c)) := by kernel_rfl
theorem f126t35 N u0 a b h c d e f g (K : KT ρ) : z22 N (z21 48991) .n (zft u0 a b h c d e f g) (z01 (some zzr) K) =
 spec_dTree.Z35 N a b h c d e f g (fun a b i c d e f g => K .nrm (zfs u0 a b i c d e f g)) := by kernel_rfl
theorem f126t38 N u0 f g h a b c d e (K : KT ρ) : z22 N (z21 163679) .n (zfs u0 f g h a b c d e) (z01 (some zzq) K) =
 spec_dTree.Z38 N f g h a b c d e (fun i a b c d e j l => K .nrm (zjn u0 i a b c d e j l)) := by kernel_rfl
theorem f126t41 N u0 a b c d e f g h (K : KT ρ) : z22 N (z21 622431) .n (zjn u0 a b c d e f g h) (z01 (some zfv) K) =
 spec_dTree.Z41 N a b c d e f g h (fun a i b c d e f g h => K .nrm (zd3 u0 a i b c d e f g h)) := by kernel_rfl
theorem f126t44 N u0 a i b c d e f g h (K : KT ρ) : z22 N (z21 2457439) .n (zd3 u0 a i b c d e f g h) (z01 (some zfv) K) =
 spec_dTree.Z44 N a i b c d e f g h (fun a i b c d e f g h => K .nrm (zd3 u0 a i b c d e f g h)) (fun a e f g h b c d => K (.exit 3) (zb8 u0 a e f g h b c d)) := by kernel_rfl
def zzb : z0m := .mk none (some zfv) .n .n
abbrev zz2 {ρ : Type} (N M : Nat) (σ : St) (K : KT ρ) : Option ρ := z2h (fun σ K => z22 N (z21 2457439) .n σ K) zfv M σ K
theorem zqf {ρ : Type} (N : Nat) (u0 : Value) (K : KT ρ) : ∀ (M : Nat) (a : LI) (i : Int) (b : List Int) (c d e f g h : Int), zz2 N M (zd3 u0 a i b c d e f g h) K =
 spec_dTree.Z43L N (fun a e f g h b c d => K (.exit 3) (zb8 u0 a e f g h b c d)) M a i b c d e f g h
 | 0, _, _, _, _, _, _, _, _, _ => rfl
 | M + 1, a, i, b, c, d, e, f, g, h => z0w (fun k => spec_dTree.Z44 N a i b c d e f g h k (fun a e f g h b c d => K (.exit 3) (zb8 u0 a e f g h b c d))) (f126t44 N u0 (K := z15 (fun σ => zz2 N M σ K) K) ..) (fx9 fun a i b c d e f g h => zqf N u0 K M a i b c d e f g h) (by kernel_rfl)
theorem f126t43 N u0 a i b c d e f g h (K : KT ρ) : z22 N (z21 1408863) zzb (zd3 u0 a i b c d e f g h) (z01 (some z7k) K) =
  spec_dTree.Z43 N a i b c d e f g h (fun a e f g h b c d => K (.exit 3) (zb8 u0 a e f g h b c d)) :=
 z18 (by kernel_rfl) (zqf N u0 (z01 (some z7k) K) N a i b c d e f g h) (by kernel_rfl)
def zoa : z0m := .mk (some z7k) none zzb .n
theorem f126t42 N u0 a i b c d e f g h (K : KT ρ) : z22 N (z21 884575) zoa (zd3 u0 a i b c d e f g h) (z01 (some z7k) K) =
  spec_dTree.Z42 N a i b c d e f g h (fun a e f g h b c d => K .nrm (zb8 u0 a e f g h b c d)) :=
 z0l (by kernel_rfl) (f126t43 N u0 (K := z1c 3 (z01 (some z7k) K)) ..) (by kernel_rfl)
def zzc : z0m := .mk (some zfv) none .n zoa
theorem f126t40 N u0 a b c d e f g h (K : KT ρ) : z22 N (z21 360287) zzc (zjn u0 a b c d e f g h) (z01 (some z7k) K) =
  spec_dTree.Z40 N a b c d e f g h (fun a e f g h b c d => K .nrm (zb8 u0 a e f g h b c d)) :=
 z06 (fun k => spec_dTree.Z41 N a b c d e f g h k) (by kernel_rfl) (f126t41 N u0 (K := z15 (fun σ => z22 N (z21 884575) zoa σ (z01 (some z7k) K)) (z01 (some z7k) K)) ..) (fx9 fun a i b c d e f g h => f126t42 N u0 a i b c d e f g h K) (by kernel_rfl)
theorem f126t45 N u0 f a b g h c d e (K : KT ρ) : z22 N (z21 491359) .n (zb8 u0 f a b g h c d e) (z01 (some z1z) K) =
 spec_dTree.Z45 N f a b g h c d e (fun i j a b c d e => K .ret (z2m u0 i j a b c d e)) := by kernel_rfl
def zob : z0m := .mk (some z7k) none zzc .n
theorem f126t39 N u0 f a b c d e g h (K : KT ρ) : z22 N (z21 229215) zob (zjn u0 f a b c d e g h) (z01 (some z1z) K) =
  spec_dTree.Z39 N f a b c d e g h (fun i j d e a b c => K .ret (z2m u0 i j d e a b c)) :=
 z06 (fun k => spec_dTree.Z40 N f a b c d e g h k) (by kernel_rfl) (f126t40 N u0 (K := z15 (fun σ => z22 N (z21 491359) .n σ (z01 (some z1z) K)) (z01 (some z1z) K)) ..) (fx8 fun f d e g h a b c => f126t45 N u0 f d e g h a b c K) (by kernel_rfl)
def zze : z0m := .mk (some zzq) none .n zob
theorem f126t37 N u0 f g h a b c d e (K : KT ρ) : z22 N (z21 98143) zze (zfs u0 f g h a b c d e) (z01 (some z1z) K) =
  spec_dTree.Z37 N f g h a b c d e (fun i j d e a b c => K .ret (z2m u0 i j d e a b c)) :=
 z06 (fun k => spec_dTree.Z38 N f g h a b c d e k) (by kernel_rfl) (f126t38 N u0 (K := z15 (fun σ => z22 N (z21 229215) zob σ (z01 (some z1z) K)) (z01 (some z1z) K)) ..) (fx8 fun l a b c d e m o => f126t39 N u0 l a b c d e m o K) (by kernel_rfl)
theorem f126t46 N u0 f g h a b c d e (K : KT ρ) : z22 N (z21 130911) .n (zfs u0 f g h a b c d e) (z01 (some z1z) K) =
 spec_dTree.Z46 N f g h a b c d e (fun f a b c d e => K .nrm (z5v u0 f a b c d e)) (fun i j d e a b c => K .ret (z2m u0 i j d e a b c)) := by kernel_rfl
def zoc : z0m := .mk none none zze .n
theorem f126t36 N u0 f h g a b c d e (K : KT ρ) : z22 N (z21 65375) zoc (zfs u0 f h g a b c d e) (z01 (some z1z) K) =
  spec_dTree.Z36 N f h g a b c d e (fun f a b c d e => K .nrm (z5v u0 f a b c d e)) (fun i j d e a b c => K .ret (z2m u0 i j d e a b c)) :=
 zee (x := .tmp 126) (t := g) (by kernel_rfl) (f126t37 N u0 (K := K) ..) (f126t46 N u0 (K := K) ..) (by kernel_rfl)
def zzf : z0m := .mk (some zzr) none .n zoc
theorem f126t34 N u0 f g h a b c d e (K : KT ρ) : z22 N (z21 32607) zzf (zft u0 f g h a b c d e) (z01 (some z1z) K) =
  spec_dTree.Z34 N f g h a b c d e (fun f a b c d e => K .nrm (z5v u0 f a b c d e)) (fun i j d e a b c => K .ret (z2m u0 i j d e a b c)) :=
 z06 (fun k => spec_dTree.Z35 N f g h a b c d e k) (by kernel_rfl) (f126t35 N u0 (K := z15 (fun σ => z22 N (z21 65375) zoc σ (z01 (some z1z) K)) (z01 (some z1z) K)) ..) (fx8 fun f g l a b c d e => f126t36 N u0 f g l a b c d e K) (by kernel_rfl)
def zod : z0m := .mk none none .n zzf
theorem f126t32 N u0 f h g a b c d e (K : KT ρ) : z22 N (z21 16223) zod (zft u0 f h g a b c d e) (z01 (some z1z) K) =
  spec_dTree.Z32 N f h g a b c d e (fun f a b c d e => K .nrm (z5v u0 f a b c d e)) (fun i j d e a b c => K .ret (z2m u0 i j d e a b c)) :=
 zee (x := .tmp 119) (t := g) (by kernel_rfl) (f126t33 N u0 (K := K) ..) (f126t34 N u0 (K := K) ..) (by kernel_rfl)
def zzg : z0m := .mk (some zzs) none .n zod
theorem f126t30 N u0 f g h a b c d e (K : KT ρ) : z22 N (z21 8031) zzg (zmc u0 f g h a b c d e) (z01 (some z1z) K) =
  spec_dTree.Z30 N f g h a b c d e (fun f a b c d e => K .nrm (z5v u0 f a b c d e)) (fun i j d e a b c => K .ret (z2m u0 i j d e a b c)) :=
 z06 (fun k => spec_dTree.Z31 N f g h a b c d e k) (by kernel_rfl) (f126t31 N u0 (K := z15 (fun σ => z22 N (z21 16223) zod σ (z01 (some z1z) K)) (z01 (some z1z) K)) ..) (fx8 fun f g l a b c d e => f126t32 N u0 f g l a b c d e K) (by kernel_rfl)
def zoe : z0m := .mk none none .n zzg
theorem f126t28 N u0 f h g a b c d e (K : KT ρ) : z22 N (z21 3935) zoe (zmc u0 f h g a b c d e) (z01 (some z1z) K) =
  spec_dTree.Z28 N f h g a b c d e (fun f a b c d e => K .nrm (z5v u0 f a b c d e)) (fun i j d e a b c => K .ret (z2m u0 i j d e a b c)) :=
 zee (x := .tmp 110) (t := g) (by kernel_rfl) (f126t29 N u0 (K := K) ..) (f126t30 N u0 (K := K) ..) (by kernel_rfl)
def zzh : z0m := .mk (some f126l9) none .n zoe
theorem f126t26 N u0 h f g i a b c d e (K : KT ρ) : z22 N (z21 1887) zzh (zi3 u0 h f g i a b c d e) (z01 (some z1z) K) =
  spec_dTree.Z26 N h f g i a b c d e (fun f a b c d e => K .nrm (z5v u0 f a b c d e)) (fun j l d e a b c => K .ret (z2m u0 j l d e a b c)) :=
 z06 (fun k => spec_dTree.Z27 N h f g i a b c d e k) (by kernel_rfl) (f126t27 N u0 (K := z15 (fun σ => z22 N (z21 3935) zoe σ (z01 (some z1z) K)) (z01 (some z1z) K)) ..) (fx8 fun f g m a b c d e => f126t28 N u0 f g m a b c d e K) (by kernel_rfl)
def zoh : z0m := .mk none none zzl zzh
theorem f126t16 N u0 h f i g a b c d e (K : KT ρ) : z22 N (z21 863) zoh (zi3 u0 h f i g a b c d e) (z01 (some z1z) K) =
  spec_dTree.Z16 N h f i g a b c d e (fun f a b c d e => K .nrm (z5v u0 f a b c d e)) (fun j l d e a b c => K .ret (z2m u0 j l d e a b c)) :=
 zee (x := .tmp 65) (t := g) (by kernel_rfl) (f126t17 N u0 (K := K) ..) (f126t26 N u0 (K := K) ..) (by kernel_rfl)
def zzm : z0m := .mk (some f126l6) none .n zoh
theorem f126t14 N u0 g f h a b c d e (K : KT ρ) : z22 N (z21 351) zzm (zqh u0 g f h a b c d e) (z01 (some z1z) K) =
  spec_dTree.Z14 N g f h a b c d e (fun f a b c d e => K .nrm (z5v u0 f a b c d e)) (fun i j d e a b c => K .ret (z2m u0 i j d e a b c)) :=
 z06 (fun k => spec_dTree.Z15 N g f h a b c d e k) (by kernel_rfl) (f126t15 N u0 (K := z15 (fun σ => z22 N (z21 863) zoh σ (z01 (some z1z) K)) (z01 (some z1z) K)) ..) (fx9 fun g f h l a b c d e => f126t16 N u0 g f h l a b c d e K) (by kernel_rfl)
def zoi : z0m := .mk (some z1z) none zzm .n
theorem f126t13 N u0 g f h a b c d e (K : KT ρ) : z22 N (z21 223) zoi (zqh u0 g f h a b c d e) (z01 (some z1z) K) =
  spec_dTree.Z13 N g f h a b c d e (fun f a b c d e => K .nrm (z5v u0 f a b c d e)) (fun i j d e a b c => K .ret (z2m u0 i j d e a b c)) :=
 z0l (by kernel_rfl) (f126t14 N u0 (K := z1c 0 (z01 (some z1z) K)) ..) (by kernel_rfl)
def zzn : z0m := .mk (some f126l5) none .n zoi
theorem f126t11 N u0 g f a b c d e (K : KT ρ) : z22 N (z21 95) zzn (zqi u0 g f a b c d e) (z01 (some z1z) K) =
  spec_dTree.Z11 N g f a b c d e (fun f a b c d e => K .nrm (z5v u0 f a b c d e)) (fun h i d e a b c => K .ret (z2m u0 h i d e a b c)) :=
 z06 (fun k => spec_dTree.Z12 N g f a b c d e k) (by kernel_rfl) (f126t12 N u0 (K := z15 (fun σ => z22 N (z21 223) zoi σ (z01 (some z1z) K)) (z01 (some z1z) K)) ..) (fx8 fun g f j a b c d e => f126t13 N u0 g f j a b c d e K) (by kernel_rfl)
theorem f126t48 N u0 a b c d e f (K : KT ρ) : z22 N (z21 191) .n (z5v u0 a b c d e f) (z01 (some zzp) K) =
 spec_dTree.Z48 N a b c d e f (fun g a b c d e f h i => K .nrm (zjm u0 g a b c d e f h i)) := by kernel_rfl
theorem f126t51 N u0 a b c d e f g h i (K : KT ρ) : z22 N (z21 639) .n (zjm u0 a b c d e f g h i) (z01 (some zfu) K) =
 spec_dTree.Z51 N a b c d e f g h i (fun a b j c d e f g h i => K .nrm (zd2 u0 a b j c d e f g h i)) := by kernel_rfl
theorem f126t54 N u0 a b j c d e f g h i (K : KT ρ) : z22 N (z21 2431) .n (zd2 u0 a b j c d e f g h i) (z01 (some zfu) K) =
 spec_dTree.Z54 N a b j c d e f g h i (fun a b j c d e f g h i => K .nrm (zd2 u0 a b j c d e f g h i)) (fun a b f g h i c d e => K (.exit 5) (zb7 u0 a b f g h i c d e)) := by kernel_rfl
def zz9 : z0m := .mk none (some zfu) .n .n
abbrev zz1 {ρ : Type} (N M : Nat) (σ : St) (K : KT ρ) : Option ρ := z2h (fun σ K => z22 N (z21 2431) .n σ K) zfu M σ K
theorem zqe {ρ : Type} (N : Nat) (u0 : Value) (K : KT ρ) : ∀ (M : Nat) (a : LI) (b j : Int) (c : List Int) (d e f g h i : Int), zz1 N M (zd2 u0 a b j c d e f g h i) K =
 spec_dTree.Z53L N (fun a b f g h i c d e => K (.exit 5) (zb7 u0 a b f g h i c d e)) M a b j c d e f g h i
 | 0, _, _, _, _, _, _, _, _, _, _ => rfl
 | M + 1, a, b, j, c, d, e, f, g, h, i => z0w (fun k => spec_dTree.Z54 N a b j c d e f g h i k (fun a b f g h i c d e => K (.exit 5) (zb7 u0 a b f g h i c d e))) (f126t54 N u0 (K := z15 (fun σ => zz1 N M σ K) K) ..) (zc2 fun a b j c d e f g h i => zqe N u0 K M a b j c d e f g h i) (by kernel_rfl)
theorem f126t53 N u0 a b j c d e f g h i (K : KT ρ) : z22 N (z21 1407) zz9 (zd2 u0 a b j c d e f g h i) (z01 (some z7j) K) =
  spec_dTree.Z53 N a b j c d e f g h i (fun a b f g h i c d e => K (.exit 5) (zb7 u0 a b f g h i c d e)) :=
 z18 (by kernel_rfl) (zqe N u0 (z01 (some z7j) K) N a b j c d e f g h i) (by kernel_rfl)
def zo7 : z0m := .mk (some z7j) none zz9 .n
theorem f126t52 N u0 a b j c d e f g h i (K : KT ρ) : z22 N (z21 895) zo7 (zd2 u0 a b j c d e f g h i) (z01 (some z7j) K) =
  spec_dTree.Z52 N a b j c d e f g h i (fun a b f g h i c d e => K .nrm (zb7 u0 a b f g h i c d e)) :=
 z0l (by kernel_rfl) (f126t53 N u0 (K := z1c 5 (z01 (some z7j) K)) ..) (by kernel_rfl)
def zza : z0m := .mk (some zfu) none .n zo7
theorem f126t50 N u0 a b c d e f g h i (K : KT ρ) : z22 N (z21 383) zza (zjm u0 a b c d e f g h i) (z01 (some z7j) K) =
  spec_dTree.Z50 N a b c d e f g h i (fun a b f g h i c d e => K .nrm (zb7 u0 a b f g h i c d e)) :=
 z06 (fun k => spec_dTree.Z51 N a b c d e f g h i k) (by kernel_rfl) (f126t51 N u0 (K := z15 (fun σ => z22 N (z21 895) zo7 σ (z01 (some z7j) K)) (z01 (some z7j) K)) ..) (zc2 fun a b j c d e f g h i => f126t52 N u0 a b j c d e f g h i K) (by kernel_rfl)
theorem f126t55 N u0 f g a b h i c d e (K : KT ρ) : z22 N (z21 511) .n (zb7 u0 f g a b h i c d e) (z01 (some z3l) K) =
 spec_dTree.Z55 N f g a b h i c d e (fun j l a b c d e => K .ret (z2m u0 j l a b c d e)) := by kernel_rfl
def zo8 : z0m := .mk (some z7j) none zza .n
theorem f126t49 N u0 f g a b c d e h i (K : KT ρ) : z22 N (z21 255) zo8 (zjm u0 f g a b c d e h i) (z01 (some z3l) K) =
  spec_dTree.Z49 N f g a b c d e h i (fun j l d e a b c => K .ret (z2m u0 j l d e a b c)) :=
 z06 (fun k => spec_dTree.Z50 N f g a b c d e h i k) (by kernel_rfl) (f126t50 N u0 (K := z15 (fun σ => z22 N (z21 511) .n σ (z01 (some z3l) K)) (z01 (some z3l) K)) ..) (fx9 fun f g d e h i a b c => f126t55 N u0 f g d e h i a b c K) (by kernel_rfl)
def zo9 : z0m := .mk (some zzp) none .n zo8
theorem f126t47 N u0 f a b c d e (K : KT ρ) : z22 N (z21 127) zo9 (z5v u0 f a b c d e) (z01 (some z3l) K) =
  spec_dTree.Z47 N f a b c d e (fun g h d e a b c => K .ret (z2m u0 g h d e a b c)) :=
 z06 (fun k => spec_dTree.Z48 N f a b c d e k) (by kernel_rfl) (f126t48 N u0 (K := z15 (fun σ => z22 N (z21 255) zo8 σ (z01 (some z3l) K)) (z01 (some z3l) K)) ..) (fx9 fun i f a b c d e j l => f126t49 N u0 i f a b c d e j l K) (by kernel_rfl)
def zoj : z0m := .mk (some z1z) none zzn zo9
theorem f126t10 N u0 g f a b c d e (K : KT ρ) : z22 N (z21 63) zoj (zqi u0 g f a b c d e) (z01 (some z3l) K) =
  spec_dTree.Z10 N g f a b c d e (fun h i d e a b c => K .ret (z2m u0 h i d e a b c)) :=
 z06 (fun k => spec_dTree.Z11 N g f a b c d e k (fun h i d e a b c => K .ret (z2m u0 h i d e a b c))) (by kernel_rfl) (f126t11 N u0 (K := z15 (fun σ => z22 N (z21 127) zo9 σ (z01 (some z3l) K)) (z01 (some z3l) K)) ..) (fx6 fun f a b c d e => f126t47 N u0 f a b c d e K) (by kernel_rfl)
def zz7 : z0m := .mk (some f126l4) none .n zoj
theorem f126t8 N u0 h f g a b c d e (K : KT ρ) : z22 N (z21 31) zz7 (zi4 u0 h f g a b c d e) (z01 (some z3l) K) =
  spec_dTree.Z8 N h f g a b c d e (fun i j d e a b c => K .ret (z2m u0 i j d e a b c)) :=
 z06 (fun k => spec_dTree.Z9 N h f g a b c d e k) (by kernel_rfl) (f126t9 N u0 (K := z15 (fun σ => z22 N (z21 63) zoj σ (z01 (some z3l) K)) (z01 (some z3l) K)) ..) (fx7 fun f g a b c d e => f126t10 N u0 f g a b c d e K) (by kernel_rfl)
def zz8 : z0m := .mk (some zqk) none .n zz7
theorem f126t6 N u0 f g h a b c d e (K : KT ρ) : z22 N (z21 15) zz8 (zi4 u0 f g h a b c d e) (z01 (some z3l) K) =
  spec_dTree.Z6 N f g h a b c d e (fun i j d e a b c => K .ret (z2m u0 i j d e a b c)) :=
 z06 (fun k => spec_dTree.Z7 N f g h a b c d e k) (by kernel_rfl) (f126t7 N u0 (K := z15 (fun σ => z22 N (z21 31) zz7 σ (z01 (some z3l) K)) (z01 (some z3l) K)) ..) (fx8 fun f g h a b c d e => f126t8 N u0 f g h a b c d e K) (by kernel_rfl)
def zzd : z0m := .mk (some zqk) none .n zz8
theorem f126t4 N u0 f g a b c d e (K : KT ρ) : z22 N (z21 7) zzd (zz4 u0 f g a b c d e) (z01 (some z3l) K) =
  spec_dTree.Z4 N f g a b c d e (fun h i d e a b c => K .ret (z2m u0 h i d e a b c)) :=
 z06 (fun k => spec_dTree.Z5 N f g a b c d e k) (by kernel_rfl) (f126t5 N u0 (K := z15 (fun σ => z22 N (z21 15) zz8 σ (z01 (some z3l) K)) (z01 (some z3l) K)) ..) (fx8 fun f g j a b c d e => f126t6 N u0 f g j a b c d e K) (by kernel_rfl)
def zzk : z0m := .mk (some f126l2) none .n zzd
theorem f126t2 N u0 f a b c d e (K : KT ρ) : z22 N (z21 3) zzk (zz5 u0 f a b c d e) (z01 (some z3l) K) =
  spec_dTree.Z2 N f a b c d e (fun g h d e a b c => K .ret (z2m u0 g h d e a b c)) :=
 z06 (fun k => spec_dTree.Z3 N f a b c d e k) (by kernel_rfl) (f126t3 N u0 (K := z15 (fun σ => z22 N (z21 7) zzd σ (z01 (some z3l) K)) (z01 (some z3l) K)) ..) (fx7 fun f i a b c d e => f126t4 N u0 f i a b c d e K) (by kernel_rfl)
def zzo : z0m := .mk (some f126l1) none .n zzk
theorem f126t0 N u0 b0 r0 a (K : KT ρ) : z22 N (z21 1) zzo (zz6 u0 b0 r0 a) (z01 (some z3l) K) =
  spec_dTree.Z0 N b0 r0 a (fun g h b c d e f => K .ret (z2m u0 g h b c d e f)) :=
 z06 (fun k => spec_dTree.Z1 N b0 r0 a k) (by kernel_rfl) (f126t1 N u0 (K := z15 (fun σ => z22 N (z21 3) zzk σ (z01 (some z3l) K)) (z01 (some z3l) K)) ..) (fx6 fun a d e f b c => f126t2 N u0 a d e f b c K) (by kernel_rfl)
theorem f126m (N : Nat) (u0 : Value) (b0 : List Int) (r0 : Int × Int) (a : Int) : z22 N (z21 1) zzo (zz6 u0 b0 r0 a) (z01 (some z3l) (z6t tab zzt zmd true zqj Try.f126.results.toList)) = spec_dTree.Z0 N b0 r0 a (fun b c d e h f g => some ([u0], ((f, g), ((), ((d, (e, b)), (c, ())))))) :=
 (f126t0 N u0 b0 r0 a (z6t tab zzt zmd true zqj Try.f126.results.toList)).trans (by kernel_rfl)
theorem f126ok (h : spec_dTree.Spec) : z2c Try.prog 126 e126 :=
 z2g (k := zzt) (ps := zmd) (rs := zqj) (back := true) (c := (z21 1)) (pl := zzo) (je := (some z3l)) (B := f126B) Try.func126 (by kernel_rfl) (by kernel_rfl) (by kernel_rfl) z3b f126GOk (by kernel_rfl) (by kernel_rfl) (by kernel_rfl) fun lit X hl hb1 hb2 hp => by
  obtain ⟨⟨⟨b0, _⟩, r0⟩, a, _⟩ := X
  match lit, hl with
  | [u0], _ =>
   obtain ⟨N, h⟩ := h [u0] b0 r0 a hb1.1 hp
   exact ⟨N, (f126m N u0 b0 r0 a).trans (h N (Nat.le_refl N))⟩
theorem e126ok : z2c Try.prog 126 e126 := f126ok spec_dTree.ok
end Go.Fw
namespace Go.Fw
variable {ρ : Type}
open Go.Proofs
def zlt : Sig := ⟨[⟨.int .i64, false, false⟩, ⟨.int .i64, false, false⟩, ⟨.int .i64, false, false⟩], [⟨.bool, false, false⟩]⟩
def e72 : z2y := ⟨zlt, none, fun X => ((), ((z35.g X.1 X.2.1 X.2.2.1), ()))⟩
def f72G : Gm := z27
theorem f72GOk : GOk Try.prog f72G := GOk.nil
def f72lE : z0d := ⟨[], [], [], [], []⟩
def f72s0 (a b c : Int) : St := z2p zlt.ps (a, (b, (c, ())))
def f72s1 (a : Bool) : St := z1i [(6, xB a)] [] []
def f72l1 : z0d := ⟨[6], [], [], [], []⟩
def f72B : Nat → Option z0d := z1g [(1000000, f72l1)]
abbrev f72i {ρ : Type} (N : Nat) (c : Code) (p : z0m) (σ : St) (K : KT ρ) : Option ρ := z1n f72G tab f72B N c p σ K
def f72c (n : Nat) : Code := z30 99 (z2a Try.f72) n
theorem f72t0 N a b c (K : KT ρ) : f72i N (f72c 1) .n (f72s0 a b c) (z01 (some f72lE) K) =
 z35.Z0 N a b c (fun d => K .ret (f72s1 d)) := by kernel_rfl
theorem f72m (N : Nat) (a b c : Int) : f72i N (f72c 1) .n (f72s0 a b c) (z01 (some f72lE) (z47 tab zlt Try.f72.results.toList)) = z35.Z0 N a b c (fun d => some ((), (d, ()))) :=
 (f72t0 N a b c (z47 tab zlt Try.f72.results.toList)).trans (by kernel_rfl)
theorem f72ok (h : z35.Spec) : z0t Try.prog 72 e72 :=
 z0p (sig := zlt) (c := (f72c 1)) (pl := .n) (je := (some f72lE)) (B := f72B) Try.func72 (by kernel_rfl) (by kernel_rfl) (by kernel_rfl) z3b f72GOk (by kernel_rfl) (by kernel_rfl) (by kernel_rfl) (by kernel_rfl) fun X hb hp => by
  obtain ⟨a, b, d, _⟩ := X
  obtain ⟨N, h⟩ := h a b d
  exact ⟨N, (f72m N a b d).trans (h N (Nat.le_refl N))⟩
theorem e72ok : z0t Try.prog 72 e72 := f72ok z35.ok
end Go.Fw
namespace Go.Fw
variable {ρ : Type}
open Go.Proofs
def zlk : Sig := ⟨[⟨.pair (.int .i64) (.pair (.int .i64) (.sl 3 (.int .i64))), true, false⟩, ⟨.int .i64, false, false⟩, ⟨.int .i64, false, false⟩], [⟨.int .i64, false, false⟩]⟩
def e80 : z2y := ⟨zlk, (some fun X => z0o.P X.1 X.2.1 X.2.2.1), fun X => ((), ((z0o.g X.1 X.2.1 X.2.2.1), ()))⟩
def f80G : Gm := z27
theorem f80GOk : GOk Try.prog f80G := GOk.nil
def f80lE : z0d := ⟨[], [], [], [], []⟩
def f80s0 (a : MT) (b c : Int) : St := z2p zlk.ps (a, (b, (c, ())))
def f80s1 (a : Int) : St := z1i [(6, xi a)] [] []
def f80l1 : z0d := ⟨[6], [], [], [], []⟩
def f80B : Nat → Option z0d := z1g [(1000000, f80l1)]
abbrev f80i {ρ : Type} (N : Nat) (c : Code) (p : z0m) (σ : St) (K : KT ρ) : Option ρ := z1n f80G tab f80B N c p σ K
def f80c (n : Nat) : Code := z30 99 (z2a Try.f80) n
theorem f80t0 N a b c (K : KT ρ) : f80i N (f80c 1) .n (f80s0 a b c) (z01 (some f80lE) K) =
 z0o.Z0 N a b c (fun d => K .ret (f80s1 d)) := by kernel_rfl
theorem f80m (N : Nat) (a : MT) (b c : Int) : f80i N (f80c 1) .n (f80s0 a b c) (z01 (some f80lE) (z47 tab zlk Try.f80.results.toList)) = z0o.Z0 N a b c (fun d => some ((), (d, ()))) :=
 (f80t0 N a b c (z47 tab zlk Try.f80.results.toList)).trans (by kernel_rfl)
theorem f80ok (h : z0o.Spec) : z0t Try.prog 80 e80 :=
 z0p (sig := zlk) (c := (f80c 1)) (pl := .n) (je := (some f80lE)) (B := f80B) Try.func80 (by kernel_rfl) (by kernel_rfl) (by kernel_rfl) z3b f80GOk (by kernel_rfl) (by kernel_rfl) (by kernel_rfl) (by kernel_rfl) fun X hb hp => by
  obtain ⟨a, b, d, _⟩ := X
  obtain ⟨N, h⟩ := h a b d hb.1 hp
  exact ⟨N, (f80m N a b d).trans (h N (Nat.le_refl N))⟩
theorem zsn : z0t Try.prog 80 e80 := f80ok z0o.ok
end Go.Fw
namespace Go.Fw
variable {ρ : Type}
open Go.Proofs
def zlr : Sig := ⟨[⟨.pair (.int .i64) (.pair (.int .i64) (.sl 3 (.int .i64))), true, false⟩], [⟨.bool, false, false⟩]⟩
def e74 : z2y := ⟨zlr, none, fun X => ((), ((z0i.g X.1), ()))⟩
def f74G : Gm := z6a (z6a z27 72 e72) 80 e80
theorem f74GOk : GOk Try.prog f74G := ((GOk.nil).add e72ok (by kernel_rfl)).add zsn (by kernel_rfl)
def zb2 : z0d := ⟨[], [], [], [], []⟩
def f74s0 (a : MT) : St := z2p zlr.ps (a, ())
def z9w (a b : Int) (c : LI) : St := z1i [(1, xb 1)] [(1, (30, [yi a, yi b, .sn 3 tI c none]))] []
def zc7 : z0d := ⟨[1], [1], [], [], []⟩
def zse (a b c : Int) (d : LI) : St := z1i [(1, xb 1), (3, xi a)] [(1, (30, [yi b, yi c, .sn 3 tI d none]))] []
def zwr : z0d := ⟨[1, 3], [1], [], [], []⟩
def z74 (a b c : Int) (d : LI) : St := z1i [(1, xb 1), (4, xi a)] [(1, (30, [yi b, yi c, .sn 3 tI d none]))] []
def z5r : z0d := ⟨[1, 4], [1], [], [], []⟩
def zsd (a b c d : Int) (e : LI) : St := z1i [(1, xb 1), (4, xi a), (5, xi b)] [(1, (30, [yi c, yi d, .sn 3 tI e none]))] []
def zwq : z0d := ⟨[1, 4, 5], [1], [], [], []⟩
def zji  : St := z1i [] [] []
def zh0 : z0d := ⟨[], [], [], [], []⟩
def z5a (a : Bool) : St := z1i [(2, xB a)] [] []
def f74l6 : z0d := ⟨[2], [], [], [], []⟩
def f74B : Nat → Option z0d := z1g [(0, zc7), (4, z5r), (3, z5r), (2, zh0), (1000000, f74l6)]
abbrev z8b {ρ : Type} (N : Nat) (c : Code) (p : z0m) (σ : St) (K : KT ρ) : Option ρ := z1n f74G tab f74B N c p σ K
def z7v (n : Nat) : Code := z30 99 (z2a Try.f74) n
theorem f74t1 N a (K : KT ρ) : z8b N (z7v 2) .n (f74s0 a) (z01 (some zc7) K) =
 z0i.Z1 N a (fun b c d => K .nrm (z9w b c d)) := by kernel_rfl
theorem f74t3 N a b c (K : KT ρ) : z8b N (z7v 5) .n (z9w a b c) (z01 (some zc7) K) =
 z0i.Z3 N a b c (fun a b c => K .nrm (z9w a b c)) (fun d => K .ret (z5a d)) := by kernel_rfl
theorem f74t6 N a b c (K : KT ρ) : z8b N (z7v 19) .n (z9w a b c) (z01 (some zwr) K) =
 z0i.Z6 N a b c (fun d a b c => K .nrm (zse d a b c)) := by kernel_rfl
theorem f74t9 N d a b c (K : KT ρ) : z8b N (z7v 75) .n (zse d a b c) (z01 (some zwr) K) =
 z0i.Z9 N d a b c (fun d a b c => K .nrm (zse d a b c)) (fun a b c => K (.exit 0) (z9w a b c)) (fun e => K .ret (z5a e)) := by kernel_rfl
def f74p8 : z0m := .mk none (some zwr) .n .n
abbrev f74w8 {ρ : Type} (N M : Nat) (σ : St) (K : KT ρ) : Option ρ := z2h (fun σ K => z8b N (z7v 75) .n σ K) zwr M σ K
theorem f74t8L {ρ : Type} (N : Nat) (K : KT ρ) : ∀ (M : Nat) (d a b : Int) (c : LI), f74w8 N M (zse d a b c) K =
 z0i.Z8L N (fun a b c => K (.exit 0) (z9w a b c)) (fun e => K .ret (z5a e)) M d a b c
 | 0, _, _, _, _ => rfl
 | M + 1, d, a, b, c => z0w (fun k => z0i.Z9 N d a b c k (fun a b c => K (.exit 0) (z9w a b c)) (fun e => K .ret (z5a e))) (f74t9 N (K := z15 (fun σ => f74w8 N M σ K) K) ..) (fx4 fun d a b c => f74t8L N K M d a b c) (by kernel_rfl)
theorem f74t8 N d a b c (K : KT ρ) : z8b N (z7v 43) f74p8 (zse d a b c) (z01 (some zc7) K) =
  z0i.Z8 N d a b c (fun a b c => K (.exit 0) (z9w a b c)) (fun e => K .ret (z5a e)) :=
 z18 (by kernel_rfl) (f74t8L N (z01 (some zc7) K) N d a b c) (by kernel_rfl)
def f74p7 : z0m := .mk (some zc7) none f74p8 .n
theorem f74t7 N d a b c (K : KT ρ) : z8b N (z7v 27) f74p7 (zse d a b c) (z01 (some zc7) K) =
  z0i.Z7 N d a b c (fun a b c => K .nrm (z9w a b c)) (fun e => K .ret (z5a e)) :=
 z0l (by kernel_rfl) (f74t8 N (K := z1c 0 (z01 (some zc7) K)) ..) (by kernel_rfl)
def f74p5 : z0m := .mk (some zwr) none .n f74p7
theorem f74t5 N a b c (K : KT ρ) : z8b N (z7v 11) f74p5 (z9w a b c) (z01 (some zc7) K) =
  z0i.Z5 N a b c (fun a b c => K .nrm (z9w a b c)) (fun d => K .ret (z5a d)) :=
 z06 (fun k => z0i.Z6 N a b c k) (by kernel_rfl) (f74t6 N (K := z15 (fun σ => z8b N (z7v 27) f74p7 σ (z01 (some zc7) K)) (z01 (some zc7) K)) ..) (fx4 fun e a b c => f74t7 N e a b c K) (by kernel_rfl)
theorem f74t12 N a b c (K : KT ρ) : z8b N (z7v 39) .n (z9w a b c) (z01 (some z5r) K) =
 z0i.Z12 N a b c (fun d a b c => K .nrm (z74 d a b c)) := by kernel_rfl
theorem f74t16 N a b c d (K : KT ρ) : z8b N (z7v 279) .n (z74 a b c d) (z01 (some z5r) K) =
 z0i.Z16 N a b c d (fun a b c d => K .nrm (z74 a b c d)) (K (.exit 2) zji) := by kernel_rfl
theorem f74t20 N a b c d (K : KT ρ) : z8b N (z7v 2199) .n (z74 a b c d) (z01 (some zwq) K) =
 z0i.Z20 N a b c d (fun a e b c d => K .nrm (zsd a e b c d)) := by kernel_rfl
theorem f74t23 N a e b c d (K : KT ρ) : z8b N (z7v 9367) .n (zsd a e b c d) (z01 (some zwq) K) =
 z0i.Z23 N a e b c d (fun a e b c d => K .nrm (zsd a e b c d)) (fun a b c d => K (.exit 4) (z74 a b c d)) (fun f => K .ret (z5a f)) := by kernel_rfl
def f74p22 : z0m := .mk none (some zwq) .n .n
abbrev f74w22 {ρ : Type} (N M : Nat) (σ : St) (K : KT ρ) : Option ρ := z2h (fun σ K => z8b N (z7v 9367) .n σ K) zwq M σ K
theorem zwj {ρ : Type} (N : Nat) (K : KT ρ) : ∀ (M : Nat) (a e b c : Int) (d : LI), f74w22 N M (zsd a e b c d) K =
 z0i.Z22L N (fun a b c d => K (.exit 4) (z74 a b c d)) (fun f => K .ret (z5a f)) M a e b c d
 | 0, _, _, _, _, _ => rfl
 | M + 1, a, e, b, c, d => z0w (fun k => z0i.Z23 N a e b c d k (fun a b c d => K (.exit 4) (z74 a b c d)) (fun f => K .ret (z5a f))) (f74t23 N (K := z15 (fun σ => f74w22 N M σ K) K) ..) (fx5 fun a e b c d => zwj N K M a e b c d) (by kernel_rfl)
theorem f74t22 N a e b c d (K : KT ρ) : z8b N (z7v 5271) f74p22 (zsd a e b c d) (z01 (some z5r) K) =
  z0i.Z22 N a e b c d (fun a b c d => K (.exit 4) (z74 a b c d)) (fun f => K .ret (z5a f)) :=
 z18 (by kernel_rfl) (zwj N (z01 (some z5r) K) N a e b c d) (by kernel_rfl)
def zwl : z0m := .mk (some z5r) none f74p22 .n
theorem f74t21 N a e b c d (K : KT ρ) : z8b N (z7v 3223) zwl (zsd a e b c d) (z01 (some z5r) K) =
  z0i.Z21 N a e b c d (fun a b c d => K .nrm (z74 a b c d)) (fun f => K .ret (z5a f)) :=
 z0l (by kernel_rfl) (f74t22 N (K := z1c 4 (z01 (some z5r) K)) ..) (by kernel_rfl)
def f74p19 : z0m := .mk (some zwq) none .n zwl
theorem f74t19 N a b c d (K : KT ρ) : z8b N (z7v 1175) f74p19 (z74 a b c d) (z01 (some z5r) K) =
  z0i.Z19 N a b c d (fun a b c d => K .nrm (z74 a b c d)) (fun e => K .ret (z5a e)) :=
 z06 (fun k => z0i.Z20 N a b c d k) (by kernel_rfl) (f74t20 N (K := z15 (fun σ => z8b N (z7v 3223) zwl σ (z01 (some z5r) K)) (z01 (some z5r) K)) ..) (fx5 fun a f b c d => f74t21 N a f b c d K) (by kernel_rfl)
def f74p18 : z0m := .mk (some z5r) none f74p19 .n
theorem f74t18 N a b c d (K : KT ρ) : z8b N (z7v 663) f74p18 (z74 a b c d) (z01 (some z5r) K) =
  z0i.Z18 N a b c d (fun a b c d => K .nrm (z74 a b c d)) (fun e => K .ret (z5a e)) :=
 z0l (by kernel_rfl) (f74t19 N (K := z1c 3 (z01 (some z5r) K)) ..) (by kernel_rfl)
theorem f74t24 N a b c d (K : KT ρ) : z8b N (z7v 919) .n (z74 a b c d) (z01 (some z5r) K) =
 z0i.Z24 N a b c d (fun a b c d => K .nrm (z74 a b c d)) := by kernel_rfl
def zwm : z0m := .mk (some z5r) none f74p18 .n
theorem f74t17 N a b c d (K : KT ρ) : z8b N (z7v 407) zwm (z74 a b c d) (z01 (some z5r) K) =
  z0i.Z17 N a b c d (fun a b c d => K .nrm (z74 a b c d)) (fun e => K .ret (z5a e)) :=
 z06 (fun k => z0i.Z18 N a b c d k (fun e => K .ret (z5a e))) (by kernel_rfl) (f74t18 N (K := z15 (fun σ => z8b N (z7v 919) .n σ (z01 (some z5r) K)) (z01 (some z5r) K)) ..) (fx4 fun a b c d => f74t24 N a b c d K) (by kernel_rfl)
def zwn : z0m := .mk (some z5r) none .n zwm
theorem f74t15 N a b c d (K : KT ρ) : z8b N (z7v 151) zwn (z74 a b c d) (z01 (some z5r) K) =
  z0i.Z15 N a b c d (fun a b c d => K .nrm (z74 a b c d)) (K (.exit 2) zji) (fun e => K .ret (z5a e)) :=
 z06 (fun k => z0i.Z16 N a b c d k (K (.exit 2) zji)) (by kernel_rfl) (f74t16 N (K := z15 (fun σ => z8b N (z7v 407) zwm σ (z01 (some z5r) K)) (z01 (some z5r) K)) ..) (fx4 fun a b c d => f74t17 N a b c d K) (by kernel_rfl)
def f74p14 : z0m := .mk none (some z5r) zwn .n
abbrev f74w14 {ρ : Type} (N M : Nat) (σ : St) (K : KT ρ) : Option ρ := z2h (fun σ K => z8b N (z7v 151) zwn σ K) z5r M σ K
theorem zwk {ρ : Type} (N : Nat) (K : KT ρ) : ∀ (M : Nat) (a b c : Int) (d : LI), f74w14 N M (z74 a b c d) K =
 z0i.Z14L N (K (.exit 2) zji) (fun e => K .ret (z5a e)) M a b c d
 | 0, _, _, _, _ => rfl
 | M + 1, a, b, c, d => z0w (fun k => z0i.Z15 N a b c d k (K (.exit 2) zji) (fun e => K .ret (z5a e))) (f74t15 N (K := z15 (fun σ => f74w14 N M σ K) K) ..) (fx4 fun a b c d => zwk N K M a b c d) (by kernel_rfl)
theorem f74t14 N a b c d (K : KT ρ) : z8b N (z7v 87) f74p14 (z74 a b c d) (z01 (some zh0) K) =
  z0i.Z14 N a b c d (K (.exit 2) zji) (fun e => K .ret (z5a e)) :=
 z18 (by kernel_rfl) (zwk N (z01 (some zh0) K) N a b c d) (by kernel_rfl)
def zwo : z0m := .mk (some zh0) none f74p14 .n
theorem f74t13 N a b c d (K : KT ρ) : z8b N (z7v 55) zwo (z74 a b c d) (z01 (some zh0) K) =
  z0i.Z13 N a b c d (K .nrm zji) (fun e => K .ret (z5a e)) :=
 z0l (by kernel_rfl) (f74t14 N (K := z1c 2 (z01 (some zh0) K)) ..) (by kernel_rfl)
def f74p11 : z0m := .mk (some z5r) none .n zwo
theorem f74t11 N a b c (K : KT ρ) : z8b N (z7v 23) f74p11 (z9w a b c) (z01 (some zh0) K) =
  z0i.Z11 N a b c (K .nrm zji) (fun d => K .ret (z5a d)) :=
 z06 (fun k => z0i.Z12 N a b c k) (by kernel_rfl) (f74t12 N (K := z15 (fun σ => z8b N (z7v 55) zwo σ (z01 (some zh0) K)) (z01 (some zh0) K)) ..) (fx4 fun e a b c => f74t13 N e a b c K) (by kernel_rfl)
theorem f74t25 N  (K : KT ρ) : z8b N (z7v 31) .n zji (z01 (some zb2) K) =
 z0i.Z25 N (fun a => K .ret (z5a a)) := by kernel_rfl
def zwp : z0m := .mk (some zh0) none f74p11 .n
theorem f74t10 N a b c (K : KT ρ) : z8b N (z7v 15) zwp (z9w a b c) (z01 (some zb2) K) =
  z0i.Z10 N a b c (fun d => K .ret (z5a d)) :=
 z06 (fun k => z0i.Z11 N a b c k (fun d => K .ret (z5a d))) (by kernel_rfl) (f74t11 N (K := z15 (fun σ => z8b N (z7v 31) .n σ (z01 (some zb2) K)) (z01 (some zb2) K)) ..) (f74t25 N K) (by kernel_rfl)
def f74p4 : z0m := .mk (some zc7) none f74p5 zwp
theorem f74t4 N a b c (K : KT ρ) : z8b N (z7v 7) f74p4 (z9w a b c) (z01 (some zb2) K) =
  z0i.Z4 N a b c (fun d => K .ret (z5a d)) :=
 z06 (fun k => z0i.Z5 N a b c k (fun d => K .ret (z5a d))) (by kernel_rfl) (f74t5 N (K := z15 (fun σ => z8b N (z7v 15) zwp σ (z01 (some zb2) K)) (z01 (some zb2) K)) ..) (fx3 fun a b c => f74t10 N a b c K) (by kernel_rfl)
def f74p2 : z0m := .mk (some zc7) none .n f74p4
theorem f74t2 N a b c (K : KT ρ) : z8b N (z7v 3) f74p2 (z9w a b c) (z01 (some zb2) K) =
  z0i.Z2 N a b c (fun d => K .ret (z5a d)) :=
 z06 (fun k => z0i.Z3 N a b c k (fun d => K .ret (z5a d))) (by kernel_rfl) (f74t3 N (K := z15 (fun σ => z8b N (z7v 7) f74p4 σ (z01 (some zb2) K)) (z01 (some zb2) K)) ..) (fx3 fun a b c => f74t4 N a b c K) (by kernel_rfl)
def f74p0 : z0m := .mk (some zc7) none .n f74p2
theorem f74t0 N a (K : KT ρ) : z8b N (z7v 1) f74p0 (f74s0 a) (z01 (some zb2) K) =
  z0i.Z0 N a (fun b => K .ret (z5a b)) :=
 z06 (fun k => z0i.Z1 N a k) (by kernel_rfl) (f74t1 N (K := z15 (fun σ => z8b N (z7v 3) f74p2 σ (z01 (some zb2) K)) (z01 (some zb2) K)) ..) (fx3 fun c d e => f74t2 N c d e K) (by kernel_rfl)
theorem f74m (N : Nat) (a : MT) : z8b N (z7v 1) f74p0 (f74s0 a) (z01 (some zb2) (z47 tab zlr Try.f74.results.toList)) = z0i.Z0 N a (fun b => some ((), (b, ()))) :=
 (f74t0 N a (z47 tab zlr Try.f74.results.toList)).trans (by kernel_rfl)
theorem f74ok (h : z0i.Spec) : z0t Try.prog 74 e74 :=
 z0p (sig := zlr) (c := (z7v 1)) (pl := f74p0) (je := (some zb2)) (B := f74B) Try.func74 (by kernel_rfl) (by kernel_rfl) (by kernel_rfl) z3b f74GOk (by kernel_rfl) (by kernel_rfl) (by kernel_rfl) (by kernel_rfl) fun X hb hp => by
  obtain ⟨a, _⟩ := X
  obtain ⟨N, h⟩ := h a hb.1
  exact ⟨N, (f74m N a).trans (h N (Nat.le_refl N))⟩
theorem e74ok : z0t Try.prog 74 e74 := f74ok z0i.ok
end Go.Fw
namespace Go.Fw
variable {ρ : Type}
open Go.Proofs
def zfp : Sig := ⟨[⟨.sl 3 (.int .i64), false, false⟩, ⟨.int .i64, false, false⟩], [⟨.bool, false, false⟩]⟩
def e129 : z2y := ⟨zfp, none, fun X => ((), ((z1l.g X.1 X.2.1), ()))⟩
def f129G : Gm := z27
theorem f129GOk : GOk Try.prog f129G := GOk.nil
def zc9 : z0d := ⟨[], [], [], [], []⟩
def zyj (a : LI) (b : Int) : St := z2p zfp.ps (a, (b, ()))
def zq9 (a : LI) (b : Int) : St := z1i [(0, .c (.sn 3 tI a none)), (1, xi b)] [] []
def f129l1 : z0d := ⟨[0, 1], [], [], [], []⟩
def zi1 (a : LI) (b d : Int) : St := z1i [(0, .c (.sn 3 tI a none)), (1, xi b), (5, xi d)] [] []
def zma : z0d := ⟨[0, 1, 5], [], [], [], []⟩
def zfq  : St := z1i [] [] []
def za9 : z0d := ⟨[], [], [], [], []⟩
def za8 (a : Bool) : St := z1i [(4, xB a)] [] []
def f129l4 : z0d := ⟨[4], [], [], [], []⟩
def f129B : Nat → Option z0d := z1g [(0, za9), (1000000, f129l4)]
abbrev zca {ρ : Type} (N : Nat) (c : Code) (p : z0m) (σ : St) (K : KT ρ) : Option ρ := z1n f129G tab f129B N c p σ K
def zb5 (n : Nat) : Code := z30 99 (z2a Try.f129) n
theorem f129t1 N a b (K : KT ρ) : zca N (zb5 2) .n (zyj a b) (z01 (some f129l1) K) =
 z1l.Z1 N a b (fun a b => K .nrm (zq9 a b)) := by kernel_rfl
theorem f129t4 N a b (K : KT ρ) : zca N (zb5 9) .n (zq9 a b) (z01 (some zma) K) =
 z1l.Z4 N a b (fun a b c => K .nrm (zi1 a b c)) := by kernel_rfl
theorem f129t7 N a b c (K : KT ρ) : zca N (zb5 37) .n (zi1 a b c) (z01 (some zma) K) =
 z1l.Z7 N a b c (fun a b c => K .nrm (zi1 a b c)) (K (.exit 0) zfq) (fun d => K .ret (za8 d)) := by kernel_rfl
def f129p6 : z0m := .mk none (some zma) .n .n
abbrev f129w6 {ρ : Type} (N M : Nat) (σ : St) (K : KT ρ) : Option ρ := z2h (fun σ K => zca N (zb5 37) .n σ K) zma M σ K
theorem zyi {ρ : Type} (N : Nat) (K : KT ρ) : ∀ (M : Nat) (a : LI) (b c : Int), f129w6 N M (zi1 a b c) K =
 z1l.Z6L N (K (.exit 0) zfq) (fun d => K .ret (za8 d)) M a b c
 | 0, _, _, _ => rfl
 | M + 1, a, b, c => z0w (fun k => z1l.Z7 N a b c k (K (.exit 0) zfq) (fun d => K .ret (za8 d))) (f129t7 N (K := z15 (fun σ => f129w6 N M σ K) K) ..) (fx3 fun a b c => zyi N K M a b c) (by kernel_rfl)
theorem f129t6 N a b c (K : KT ρ) : zca N (zb5 21) f129p6 (zi1 a b c) (z01 (some za9) K) =
  z1l.Z6 N a b c (K (.exit 0) zfq) (fun d => K .ret (za8 d)) :=
 z18 (by kernel_rfl) (zyi N (z01 (some za9) K) N a b c) (by kernel_rfl)
def zyk : z0m := .mk (some za9) none f129p6 .n
theorem f129t5 N a b c (K : KT ρ) : zca N (zb5 13) zyk (zi1 a b c) (z01 (some za9) K) =
  z1l.Z5 N a b c (K .nrm zfq) (fun d => K .ret (za8 d)) :=
 z0l (by kernel_rfl) (f129t6 N (K := z1c 0 (z01 (some za9) K)) ..) (by kernel_rfl)
def f129p3 : z0m := .mk (some zma) none .n zyk
theorem f129t3 N a b (K : KT ρ) : zca N (zb5 5) f129p3 (zq9 a b) (z01 (some za9) K) =
  z1l.Z3 N a b (K .nrm zfq) (fun c => K .ret (za8 c)) :=
 z06 (fun k => z1l.Z4 N a b k) (by kernel_rfl) (f129t4 N (K := z15 (fun σ => zca N (zb5 13) zyk σ (z01 (some za9) K)) (z01 (some za9) K)) ..) (fx3 fun a b d => f129t5 N a b d K) (by kernel_rfl)
theorem f129t8 N  (K : KT ρ) : zca N (zb5 7) .n zfq (z01 (some zc9) K) =
 z1l.Z8 N (fun a => K .ret (za8 a)) := by kernel_rfl
def zyl : z0m := .mk (some za9) none f129p3 .n
theorem f129t2 N a b (K : KT ρ) : zca N (zb5 3) zyl (zq9 a b) (z01 (some zc9) K) =
  z1l.Z2 N a b (fun c => K .ret (za8 c)) :=
 z06 (fun k => z1l.Z3 N a b k (fun c => K .ret (za8 c))) (by kernel_rfl) (f129t3 N (K := z15 (fun σ => zca N (zb5 7) .n σ (z01 (some zc9) K)) (z01 (some zc9) K)) ..) (f129t8 N K) (by kernel_rfl)
def zym : z0m := .mk (some f129l1) none .n zyl
theorem f129t0 N a b (K : KT ρ) : zca N (zb5 1) zym (zyj a b) (z01 (some zc9) K) =
  z1l.Z0 N a b (fun c => K .ret (za8 c)) :=
 z06 (fun k => z1l.Z1 N a b k) (by kernel_rfl) (f129t1 N (K := z15 (fun σ => zca N (zb5 3) zyl σ (z01 (some zc9) K)) (z01 (some zc9) K)) ..) (fx2 fun a b => f129t2 N a b K) (by kernel_rfl)
theorem f129m (N : Nat) (a : LI) (b : Int) : zca N (zb5 1) zym (zyj a b) (z01 (some zc9) (z47 tab zfp Try.f129.results.toList)) = z1l.Z0 N a b (fun c => some ((), (c, ()))) :=
 (f129t0 N a b (z47 tab zfp Try.f129.results.toList)).trans (by kernel_rfl)
theorem f129ok (h : z1l.Spec) : z0t Try.prog 129 e129 :=
 z0p (sig := zfp) (c := (zb5 1)) (pl := zym) (je := (some zc9)) (B := f129B) Try.func129 (by kernel_rfl) (by kernel_rfl) (by kernel_rfl) z3b f129GOk (by kernel_rfl) (by kernel_rfl) (by kernel_rfl) (by kernel_rfl) fun X hb hp => by
  obtain ⟨a, b, _⟩ := X
  obtain ⟨N, h⟩ := h a b hb.1
  exact ⟨N, (f129m N a b).trans (h N (Nat.le_refl N))⟩
theorem e129ok : z0t Try.prog 129 e129 := f129ok z1l.ok
end Go.Fw
namespace Go.Fw
variable {ρ : Type}
open Go.Proofs
def zg2 : Sig := ⟨[⟨.pair (.int .i64) (.pair (.int .i64) (.sl 3 (.int .i64))), true, false⟩, ⟨.int .i64, false, false⟩], [⟨.sl 3 (.int .i64), false, false⟩, ⟨.sl 3 (.int .i64), false, false⟩]⟩
def e118 : z2y := ⟨zg2, (some fun X => z0j.P X.1 X.2.1), fun X => ((), ((z0j.g X.1 X.2.1).1, ((z0j.g X.1 X.2.1).2, ())))⟩
def f118G : Gm := z6a (z6a z27 80 e80) 129 e129
theorem f118GOk : GOk Try.prog f118G := ((GOk.nil).add zsn (by kernel_rfl)).add e129ok (by kernel_rfl)
def z6x : z0d := ⟨[], [], [], [], []⟩
def y07 (a : MT) (b : Int) : St := z2p zg2.ps (a, (b, ()))
def y06 (a b c : Int) (d : LI) : St := z1i [(1, xi a), (2, xb 2)] [(2, (30, [yi b, yi c, .sn 3 tI d none]))] []
def f118l1 : z0d := ⟨[1, 2], [2], [], [], []⟩
def y05 (a : LI) (b c d : Int) (e : LI) : St := z1i [(1, xi b), (2, xb 2), (6, xo 1000384)] [(2, (30, [yi c, yi d, .sn 3 tI e none]))] [(1000384, (⟨3, .int .i64, a, true, false⟩ : Row))]
def f118l2 : z0d := ⟨[1, 2, 6], [2], [], [], [(⟨false, 6, 0⟩, 1000384)]⟩
def zqo (a b : LI) (c d : Int) (e : LI) : St := z1i [(2, xb 2), (6, xo 1000384), (7, xo 1000448)] [(2, (30, [yi c, yi d, .sn 3 tI e none]))] [(1000384, (⟨3, .int .i64, a, true, false⟩ : Row)), (1000448, (⟨3, .int .i64, b, true, false⟩ : Row))]
def f118l3 : z0d := ⟨[2, 6, 7], [2], [], [], [(⟨false, 6, 0⟩, 1000384), (⟨false, 7, 0⟩, 1000448)]⟩
def z4i (a b : LI) (c d e : Int) (f : LI) : St := z1i [(2, xb 2), (6, xo 1000384), (7, xo 1000448), (8, xi c)] [(2, (30, [yi d, yi e, .sn 3 tI f none]))] [(1000384, (⟨3, .int .i64, a, true, false⟩ : Row)), (1000448, (⟨3, .int .i64, b, true, false⟩ : Row))]
def z3m : z0d := ⟨[2, 6, 7, 8], [2], [], [], [(⟨false, 6, 0⟩, 1000384), (⟨false, 7, 0⟩, 1000448)]⟩
def zi6 (a b : LI) (c d e f : Int) (g : LI) : St := z1i [(2, xb 2), (6, xo 1000384), (7, xo 1000448), (8, xi c), (9, xi d)] [(2, (30, [yi e, yi f, .sn 3 tI g none]))] [(1000384, (⟨3, .int .i64, a, true, false⟩ : Row)), (1000448, (⟨3, .int .i64, b, true, false⟩ : Row))]
def zmi : z0d := ⟨[2, 6, 7, 8, 9], [2], [], [], [(⟨false, 6, 0⟩, 1000384), (⟨false, 7, 0⟩, 1000448)]⟩
def zcd (a b : LI) : St := z1i [(6, xo 1000384), (7, xo 1000448)] [] [(1000384, (⟨3, .int .i64, a, true, false⟩ : Row)), (1000448, (⟨3, .int .i64, b, true, false⟩ : Row))]
def zab : z0d := ⟨[6, 7], [], [], [], [(⟨false, 6, 0⟩, 1000384), (⟨false, 7, 0⟩, 1000448)]⟩
def zmh (a b : LI) : St := z1i [(4, xo 1000256), (5, xo 1000320)] [] [(1000256, (⟨3, .int .i64, a, true, false⟩ : Row)), (1000320, (⟨3, .int .i64, b, true, false⟩ : Row))]
def f118l7 : z0d := ⟨[4, 5], [], [], [], [(⟨false, 4, 0⟩, 1000256), (⟨false, 5, 0⟩, 1000320)]⟩
def f118B : Nat → Option z0d := z1g [(2, z3m), (1, z3m), (0, zab), (1000000, f118l7)]
abbrev z4m {ρ : Type} (N : Nat) (c : Code) (p : z0m) (σ : St) (K : KT ρ) : Option ρ := z1n f118G tab f118B N c p σ K
def z4d (n : Nat) : Code := z30 99 (z2a Try.f118) n
theorem f118t1 N b a (K : KT ρ) : z4m N (z4d 2) .n (y07 b a) (z01 (some f118l1) K) =
 z0j.Z1 N b a (fun a c d e => K .nrm (y06 a c d e)) := by kernel_rfl
theorem f118t3 N a b c d (K : KT ρ) : z4m N (z4d 5) .n (y06 a b c d) (z01 (some f118l2) K) =
 z0j.Z3 N a b c d (fun e a b c d => K .nrm (y05 e a b c d)) := by kernel_rfl
theorem f118t5 N a e b c d (K : KT ρ) : z4m N (z4d 11) .n (y05 a e b c d) (z01 (some f118l3) K) =
 z0j.Z5 N a e b c d (fun a f b c d => K .nrm (zqo a f b c d)) := by kernel_rfl
theorem f118t8 N a b c d e (K : KT ρ) : z4m N (z4d 39) .n (zqo a b c d e) (z01 (some z3m) K) =
 z0j.Z8 N a b c d e (fun a b f c d e => K .nrm (z4i a b f c d e)) := by kernel_rfl
theorem f118t12 N a b c d e f (K : KT ρ) : z4m N (z4d 279) .n (z4i a b c d e f) (z01 (some z3m) K) =
 z0j.Z12 N a b c d e f (fun a b c d e f => K .nrm (z4i a b c d e f)) (fun a b => K (.exit 0) (zcd a b)) := by kernel_rfl
theorem f118t16 N a b c d e f (K : KT ρ) : z4m N (z4d 2199) .n (z4i a b c d e f) (z01 (some zmi) K) =
 z0j.Z16 N a b c d e f (fun a b c g d e f => K .nrm (zi6 a b c g d e f)) := by kernel_rfl
theorem f118t19 N a b c g d e f (K : KT ρ) : z4m N (z4d 9367) .n (zi6 a b c g d e f) (z01 (some zmi) K) =
 z0j.Z19 N a b c g d e f (fun a b c g d e f => K .nrm (zi6 a b c g d e f)) (fun a b c d e f => K (.exit 2) (z4i a b c d e f)) := by kernel_rfl
def y0c : z0m := .mk none (some zmi) .n .n
abbrev y03 {ρ : Type} (N M : Nat) (σ : St) (K : KT ρ) : Option ρ := z2h (fun σ K => z4m N (z4d 9367) .n σ K) zmi M σ K
theorem zqm {ρ : Type} (N : Nat) (K : KT ρ) : ∀ (M : Nat) (a b : LI) (c g d e : Int) (f : LI), y03 N M (zi6 a b c g d e f) K =
 z0j.Z18L N (fun a b c d e f => K (.exit 2) (z4i a b c d e f)) M a b c g d e f
 | 0, _, _, _, _, _, _, _ => rfl
 | M + 1, a, b, c, g, d, e, f => z0w (fun k => z0j.Z19 N a b c g d e f k (fun a b c d e f => K (.exit 2) (z4i a b c d e f))) (f118t19 N (K := z15 (fun σ => y03 N M σ K) K) ..) (fx7 fun a b c g d e f => zqm N K M a b c g d e f) (by kernel_rfl)
theorem f118t18 N a b c g d e f (K : KT ρ) : z4m N (z4d 5271) y0c (zi6 a b c g d e f) (z01 (some z3m) K) =
  z0j.Z18 N a b c g d e f (fun a b c d e f => K (.exit 2) (z4i a b c d e f)) :=
 z18 (by kernel_rfl) (zqm N (z01 (some z3m) K) N a b c g d e f) (by kernel_rfl)
def zok : z0m := .mk (some z3m) none y0c .n
theorem f118t17 N a b c g d e f (K : KT ρ) : z4m N (z4d 3223) zok (zi6 a b c g d e f) (z01 (some z3m) K) =
  z0j.Z17 N a b c g d e f (fun a b c d e f => K .nrm (z4i a b c d e f)) :=
 z0l (by kernel_rfl) (f118t18 N (K := z1c 2 (z01 (some z3m) K)) ..) (by kernel_rfl)
def y0d : z0m := .mk (some zmi) none .n zok
theorem f118t15 N a b c d e f (K : KT ρ) : z4m N (z4d 1175) y0d (z4i a b c d e f) (z01 (some z3m) K) =
  z0j.Z15 N a b c d e f (fun a b c d e f => K .nrm (z4i a b c d e f)) :=
 z06 (fun k => z0j.Z16 N a b c d e f k) (by kernel_rfl) (f118t16 N (K := z15 (fun σ => z4m N (z4d 3223) zok σ (z01 (some z3m) K)) (z01 (some z3m) K)) ..) (fx7 fun a b c g d e f => f118t17 N a b c g d e f K) (by kernel_rfl)
def y0e : z0m := .mk (some z3m) none y0d .n
theorem f118t14 N a b c d e f (K : KT ρ) : z4m N (z4d 663) y0e (z4i a b c d e f) (z01 (some z3m) K) =
  z0j.Z14 N a b c d e f (fun a b c d e f => K .nrm (z4i a b c d e f)) :=
 z0l (by kernel_rfl) (f118t15 N (K := z1c 1 (z01 (some z3m) K)) ..) (by kernel_rfl)
theorem f118t20 N a b c d e f (K : KT ρ) : z4m N (z4d 919) .n (z4i a b c d e f) (z01 (some z3m) K) =
 z0j.Z20 N a b c d e f (fun a b c d e f => K .nrm (z4i a b c d e f)) := by kernel_rfl
def zol : z0m := .mk (some z3m) none y0e .n
theorem f118t13 N a b c d e f (K : KT ρ) : z4m N (z4d 407) zol (z4i a b c d e f) (z01 (some z3m) K) =
  z0j.Z13 N a b c d e f (fun a b c d e f => K .nrm (z4i a b c d e f)) :=
 z06 (fun k => z0j.Z14 N a b c d e f k) (by kernel_rfl) (f118t14 N (K := z15 (fun σ => z4m N (z4d 919) .n σ (z01 (some z3m) K)) (z01 (some z3m) K)) ..) (fx6 fun a b c d e f => f118t20 N a b c d e f K) (by kernel_rfl)
def zom : z0m := .mk (some z3m) none .n zol
theorem f118t11 N a b c d e f (K : KT ρ) : z4m N (z4d 151) zom (z4i a b c d e f) (z01 (some z3m) K) =
  z0j.Z11 N a b c d e f (fun a b c d e f => K .nrm (z4i a b c d e f)) (fun a b => K (.exit 0) (zcd a b)) :=
 z06 (fun k => z0j.Z12 N a b c d e f k (fun a b => K (.exit 0) (zcd a b))) (by kernel_rfl) (f118t12 N (K := z15 (fun σ => z4m N (z4d 407) zol σ (z01 (some z3m) K)) (z01 (some z3m) K)) ..) (fx6 fun a b c d e f => f118t13 N a b c d e f K) (by kernel_rfl)
def y0f : z0m := .mk none (some z3m) zom .n
abbrev y04 {ρ : Type} (N M : Nat) (σ : St) (K : KT ρ) : Option ρ := z2h (fun σ K => z4m N (z4d 151) zom σ K) z3m M σ K
theorem zqn {ρ : Type} (N : Nat) (K : KT ρ) : ∀ (M : Nat) (a b : LI) (c d e : Int) (f : LI), y04 N M (z4i a b c d e f) K =
 z0j.Z10L N (fun a b => K (.exit 0) (zcd a b)) M a b c d e f
 | 0, _, _, _, _, _, _ => rfl
 | M + 1, a, b, c, d, e, f => z0w (fun k => z0j.Z11 N a b c d e f k (fun a b => K (.exit 0) (zcd a b))) (f118t11 N (K := z15 (fun σ => y04 N M σ K) K) ..) (fx6 fun a b c d e f => zqn N K M a b c d e f) (by kernel_rfl)
theorem f118t10 N a b c d e f (K : KT ρ) : z4m N (z4d 87) y0f (z4i a b c d e f) (z01 (some zab) K) =
  z0j.Z10 N a b c d e f (fun a b => K (.exit 0) (zcd a b)) :=
 z18 (by kernel_rfl) (zqn N (z01 (some zab) K) N a b c d e f) (by kernel_rfl)
def y08 : z0m := .mk (some zab) none y0f .n
theorem f118t9 N a b c d e f (K : KT ρ) : z4m N (z4d 55) y08 (z4i a b c d e f) (z01 (some zab) K) =
  z0j.Z9 N a b c d e f (fun a b => K .nrm (zcd a b)) :=
 z0l (by kernel_rfl) (f118t10 N (K := z1c 0 (z01 (some zab) K)) ..) (by kernel_rfl)
def f118p7 : z0m := .mk (some z3m) none .n y08
theorem f118t7 N a b c d e (K : KT ρ) : z4m N (z4d 23) f118p7 (zqo a b c d e) (z01 (some zab) K) =
  z0j.Z7 N a b c d e (fun a b => K .nrm (zcd a b)) :=
 z06 (fun k => z0j.Z8 N a b c d e k) (by kernel_rfl) (f118t8 N (K := z15 (fun σ => z4m N (z4d 55) y08 σ (z01 (some zab) K)) (z01 (some zab) K)) ..) (fx6 fun a b f c d e => f118t9 N a b f c d e K) (by kernel_rfl)
theorem f118t21 N a b (K : KT ρ) : z4m N (z4d 31) .n (zcd a b) (z01 (some z6x) K) =
 z0j.Z21 N a b (fun c d => K .ret (zmh c d)) := by kernel_rfl
def y09 : z0m := .mk (some zab) none f118p7 .n
theorem f118t6 N a b c d e (K : KT ρ) : z4m N (z4d 15) y09 (zqo a b c d e) (z01 (some z6x) K) =
  z0j.Z6 N a b c d e (fun f g => K .ret (zmh f g)) :=
 z06 (fun k => z0j.Z7 N a b c d e k) (by kernel_rfl) (f118t7 N (K := z15 (fun σ => z4m N (z4d 31) .n σ (z01 (some z6x) K)) (z01 (some z6x) K)) ..) (fx2 fun a b => f118t21 N a b K) (by kernel_rfl)
def y0a : z0m := .mk (some f118l3) none .n y09
theorem f118t4 N a e b c d (K : KT ρ) : z4m N (z4d 7) y0a (y05 a e b c d) (z01 (some z6x) K) =
  z0j.Z4 N a e b c d (fun f g => K .ret (zmh f g)) :=
 z06 (fun k => z0j.Z5 N a e b c d k) (by kernel_rfl) (f118t5 N (K := z15 (fun σ => z4m N (z4d 15) y09 σ (z01 (some z6x) K)) (z01 (some z6x) K)) ..) (fx5 fun a h b c d => f118t6 N a h b c d K) (by kernel_rfl)
def y0b : z0m := .mk (some f118l2) none .n y0a
theorem f118t2 N a b c d (K : KT ρ) : z4m N (z4d 3) y0b (y06 a b c d) (z01 (some z6x) K) =
  z0j.Z2 N a b c d (fun e f => K .ret (zmh e f)) :=
 z06 (fun k => z0j.Z3 N a b c d k) (by kernel_rfl) (f118t3 N (K := z15 (fun σ => z4m N (z4d 7) y0a σ (z01 (some z6x) K)) (z01 (some z6x) K)) ..) (fx5 fun g a b c d => f118t4 N g a b c d K) (by kernel_rfl)
def y0g : z0m := .mk (some f118l1) none .n y0b
theorem f118t0 N b a (K : KT ρ) : z4m N (z4d 1) y0g (y07 b a) (z01 (some z6x) K) =
  z0j.Z0 N b a (fun c d => K .ret (zmh c d)) :=
 z06 (fun k => z0j.Z1 N b a k) (by kernel_rfl) (f118t1 N (K := z15 (fun σ => z4m N (z4d 3) y0b σ (z01 (some z6x) K)) (z01 (some z6x) K)) ..) (fx4 fun a e f g => f118t2 N a e f g K) (by kernel_rfl)
theorem f118m (N : Nat) (a : MT) (b : Int) : z4m N (z4d 1) y0g (y07 a b) (z01 (some z6x) (z47 tab zg2 Try.f118.results.toList)) = z0j.Z0 N a b (fun c d => some ((), (c, (d, ())))) :=
 (f118t0 N a b (z47 tab zg2 Try.f118.results.toList)).trans (by kernel_rfl)
theorem f118ok (h : z0j.Spec) : z0t Try.prog 118 e118 :=
 z0p (sig := zg2) (c := (z4d 1)) (pl := y0g) (je := (some z6x)) (B := f118B) Try.func118 (by kernel_rfl) (by kernel_rfl) (by kernel_rfl) z3b f118GOk (by kernel_rfl) (by kernel_rfl) (by kernel_rfl) (by kernel_rfl) fun X hb hp => by
  obtain ⟨a, b, _⟩ := X
  obtain ⟨N, h⟩ := h a b hb.1 hp
  exact ⟨N, (f118m N a b).trans (h N (Nat.le_refl N))⟩
theorem e118ok : z0t Try.prog 118 e118 := f118ok z0j.ok
end Go.Fw
namespace Go.Fw
variable {ρ : Type}
open Go.Proofs
def zg1 : Sig := ⟨[⟨.int .i64, false, false⟩], [⟨.int .i64, false, false⟩]⟩
def e119 : z2y := ⟨zg1, none, fun X => ((), ((z2n.g X.1), ()))⟩
def f119G : Gm := z27
theorem f119GOk : GOk Try.prog f119G := GOk.nil
def y02 : z0d := ⟨[], [], [], [], []⟩
def f119s0 (a : Int) : St := z2p zg1.ps (a, ())
def f119s1 (a : Int) : St := z1i [(2, xi a)] [] []
def f119l1 : z0d := ⟨[2], [], [], [], []⟩
def f119B : Nat → Option z0d := z1g [(1000000, f119l1)]
abbrev f119i {ρ : Type} (N : Nat) (c : Code) (p : z0m) (σ : St) (K : KT ρ) : Option ρ := z1n f119G tab f119B N c p σ K
def f119c (n : Nat) : Code := z30 99 (z2a Try.f119) n
theorem f119t0 N a (K : KT ρ) : f119i N (f119c 1) .n (f119s0 a) (z01 (some y02) K) =
 z2n.Z0 N a (fun b => K .ret (f119s1 b)) := by kernel_rfl
theorem f119m (N : Nat) (a : Int) : f119i N (f119c 1) .n (f119s0 a) (z01 (some y02) (z47 tab zg1 Try.f119.results.toList)) = z2n.Z0 N a (fun b => some ((), (b, ()))) :=
 (f119t0 N a (z47 tab zg1 Try.f119.results.toList)).trans (by kernel_rfl)
theorem f119ok (h : z2n.Spec) : z0t Try.prog 119 e119 :=
 z0p (sig := zg1) (c := (f119c 1)) (pl := .n) (je := (some y02)) (B := f119B) Try.func119 (by kernel_rfl) (by kernel_rfl) (by kernel_rfl) z3b f119GOk (by kernel_rfl) (by kernel_rfl) (by kernel_rfl) (by kernel_rfl) fun X hb hp => by
  obtain ⟨a, _⟩ := X
  obtain ⟨N, h⟩ := h a
  exact ⟨N, (f119m N a).trans (h N (Nat.le_refl N))⟩
theorem e119ok : z0t Try.prog 119 e119 := f119ok z2n.ok
end Go.Fw
namespace Go.Fw
variable {ρ : Type}
open Go.Proofs
def zfx : Sig := ⟨[⟨.int .i64, false, false⟩, ⟨.int .i64, false, false⟩], [⟨.int .i64, false, false⟩]⟩
def e120 : z2y := ⟨zfx, (some fun X => z1x.P X.1 X.2.1), fun X => ((), ((z1x.g X.1 X.2.1), ()))⟩
def f120G : Gm := z27
theorem f120GOk : GOk Try.prog f120G := GOk.nil
def zcc : z0d := ⟨[], [], [], [], []⟩
def zzz (a b : Int) : St := z2p zfx.ps (a, (b, ()))
def zfy (a b : Int) : St := z1i [(0, xi a), (1, xi b)] [] []
def zmg : z0d := ⟨[0, 1], [], [], [], []⟩
def zi5 (a : Int) : St := z1i [(0, xi a)] [] []
def zfz : z0d := ⟨[0], [], [], [], []⟩
def zzy (a : Int) : St := z1i [(4, xi a)] [] []
def f120l3 : z0d := ⟨[4], [], [], [], []⟩
def f120B : Nat → Option z0d := z1g [(0, zfz), (1000000, f120l3)]
abbrev zg0 {ρ : Type} (N : Nat) (c : Code) (p : z0m) (σ : St) (K : KT ρ) : Option ρ := z1n f120G tab f120B N c p σ K
def zea (n : Nat) : Code := z30 99 (z2a Try.f120) n
theorem f120t1 N a b (K : KT ρ) : zg0 N (zea 2) .n (zzz a b) (z01 (some zmg) K) =
 z1x.Z1 N a b (fun a b => K .nrm (zfy a b)) := by kernel_rfl
theorem f120t5 N a b (K : KT ρ) : zg0 N (zea 17) .n (zfy a b) (z01 (some zmg) K) =
 z1x.Z5 N a b (fun a b => K .nrm (zfy a b)) (fun a => K (.exit 0) (zi5 a)) := by kernel_rfl
def f120p4 : z0m := .mk none (some zmg) .n .n
abbrev f120w4 {ρ : Type} (N M : Nat) (σ : St) (K : KT ρ) : Option ρ := z2h (fun σ K => zg0 N (zea 17) .n σ K) zmg M σ K
theorem zzx {ρ : Type} (N : Nat) (K : KT ρ) : ∀ (M : Nat) (a b : Int), f120w4 N M (zfy a b) K =
 z1x.Z4L N (fun a => K (.exit 0) (zi5 a)) M a b
 | 0, _, _ => rfl
 | M + 1, a, b => z0w (fun k => z1x.Z5 N a b k (fun a => K (.exit 0) (zi5 a))) (f120t5 N (K := z15 (fun σ => f120w4 N M σ K) K) ..) (fx2 fun a b => zzx N K M a b) (by kernel_rfl)
theorem f120t4 N a b (K : KT ρ) : zg0 N (zea 9) f120p4 (zfy a b) (z01 (some zfz) K) =
  z1x.Z4 N a b (fun a => K (.exit 0) (zi5 a)) :=
 z18 (by kernel_rfl) (zzx N (z01 (some zfz) K) N a b) (by kernel_rfl)
def f120p3 : z0m := .mk (some zfz) none f120p4 .n
theorem f120t3 N a b (K : KT ρ) : zg0 N (zea 5) f120p3 (zfy a b) (z01 (some zfz) K) =
  z1x.Z3 N a b (fun a => K .nrm (zi5 a)) :=
 z0l (by kernel_rfl) (f120t4 N (K := z1c 0 (z01 (some zfz) K)) ..) (by kernel_rfl)
theorem f120t6 N a (K : KT ρ) : zg0 N (zea 7) .n (zi5 a) (z01 (some zcc) K) =
 z1x.Z6 N a (fun b => K .ret (zzy b)) := by kernel_rfl
def y00 : z0m := .mk (some zfz) none f120p3 .n
theorem f120t2 N a b (K : KT ρ) : zg0 N (zea 3) y00 (zfy a b) (z01 (some zcc) K) =
  z1x.Z2 N a b (fun c => K .ret (zzy c)) :=
 z06 (fun k => z1x.Z3 N a b k) (by kernel_rfl) (f120t3 N (K := z15 (fun σ => zg0 N (zea 7) .n σ (z01 (some zcc) K)) (z01 (some zcc) K)) ..) (funext fun a => f120t6 N a K) (by kernel_rfl)
def y01 : z0m := .mk (some zmg) none .n y00
theorem f120t0 N a b (K : KT ρ) : zg0 N (zea 1) y01 (zzz a b) (z01 (some zcc) K) =
  z1x.Z0 N a b (fun c => K .ret (zzy c)) :=
 z06 (fun k => z1x.Z1 N a b k) (by kernel_rfl) (f120t1 N (K := z15 (fun σ => zg0 N (zea 3) y00 σ (z01 (some zcc) K)) (z01 (some zcc) K)) ..) (fx2 fun a b => f120t2 N a b K) (by kernel_rfl)
theorem f120m (N : Nat) (a b : Int) : zg0 N (zea 1) y01 (zzz a b) (z01 (some zcc) (z47 tab zfx Try.f120.results.toList)) = z1x.Z0 N a b (fun c => some ((), (c, ()))) :=
 (f120t0 N a b (z47 tab zfx Try.f120.results.toList)).trans (by kernel_rfl)
theorem f120ok (h : z1x.Spec) : z0t Try.prog 120 e120 :=
 z0p (sig := zfx) (c := (zea 1)) (pl := y01) (je := (some zcc)) (B := f120B) Try.func120 (by kernel_rfl) (by kernel_rfl) (by kernel_rfl) z3b f120GOk (by kernel_rfl) (by kernel_rfl) (by kernel_rfl) (by kernel_rfl) fun X hb hp => by
  obtain ⟨a, b, _⟩ := X
  obtain ⟨N, h⟩ := h a b hp
  exact ⟨N, (f120m N a b).trans (h N (Nat.le_refl N))⟩
theorem e120ok : z0t Try.prog 120 e120 := f120ok z1x.ok
end Go.Fw
namespace Go.Fw
variable {ρ : Type}
open Go.Proofs
def zle : Sig := ⟨[⟨.pair (.int .i64) (.pair (.int .i64) (.sl 3 (.int .i64))), true, false⟩], [⟨.sl 3 (.int .i64), false, false⟩, ⟨.bool, false, false⟩]⟩
def e94 : z2y := ⟨zle, (some fun X => z03.P X.1), fun X => ((), ((z03.g X.1).1, ((z03.g X.1).2, ())))⟩
def f94G : Gm := z6a (z6a (z6a (z6a z27 80 e80) 118 e118) 119 e119) 120 e120
theorem f94GOk : GOk Try.prog f94G := ((((GOk.nil).add zsn (by kernel_rfl)).add e118ok (by kernel_rfl)).add e119ok (by kernel_rfl)).add e120ok (by kernel_rfl)
def zaz : z0d := ⟨[], [], [], [], []⟩
def f94s0 (a : MT) : St := z2p zle.ps (a, ())
def f94s1 (a b : Int) (c : LI) : St := z1i [(1, xb 1)] [(1, (30, [yi a, yi b, .sn 3 tI c none]))] []
def f94l1 : z0d := ⟨[1], [1], [], [], []⟩
def zay (a : LI) (b c : Int) (d : LI) : St := z1i [(1, xb 1), (4, xo 1000256)] [(1, (30, [yi b, yi c, .sn 3 tI d none]))] [(1000256, (⟨3, .int .i64, a, true, false⟩ : Row))]
def zdy : z0d := ⟨[1, 4], [1], [], [], [(⟨false, 4, 0⟩, 1000256)]⟩
def z4c (a : LI) (b c d : Int) (e : LI) : St := z1i [(1, xb 1), (4, xo 1000256), (5, xi b)] [(1, (30, [yi c, yi d, .sn 3 tI e none]))] [(1000256, (⟨3, .int .i64, a, true, false⟩ : Row))]
def z39 : z0d := ⟨[1, 4, 5], [1], [], [], [(⟨false, 4, 0⟩, 1000256)]⟩
def zax (a b c : LI) (d e f : Int) (g : LI) : St := z1i [(1, xb 1), (4, xo 1000256), (5, xi d), (6, xo 1000384), (7, xo 1000448)] [(1, (30, [yi e, yi f, .sn 3 tI g none]))] [(1000256, (⟨3, .int .i64, a, true, false⟩ : Row)), (1000384, (⟨3, .int .i64, b, true, false⟩ : Row)), (1000448, (⟨3, .int .i64, c, true, false⟩ : Row))]
def zc5 : z0d := ⟨[1, 4, 5, 6, 7], [1], [], [], [(⟨false, 4, 0⟩, 1000256), (⟨false, 6, 0⟩, 1000384), (⟨false, 7, 0⟩, 1000448)]⟩
def zsa (a b c : LI) (d e f g : Int) (h : LI) : St := z1i [(1, xb 1), (4, xo 1000256), (5, xi d), (6, xo 1000384), (7, xo 1000448), (8, xi e)] [(1, (30, [yi f, yi g, .sn 3 tI h none]))] [(1000256, (⟨3, .int .i64, a, true, false⟩ : Row)), (1000384, (⟨3, .int .i64, b, true, false⟩ : Row)), (1000448, (⟨3, .int .i64, c, true, false⟩ : Row))]
def zvf : z0d := ⟨[1, 4, 5, 6, 7, 8], [1], [], [], [(⟨false, 4, 0⟩, 1000256), (⟨false, 6, 0⟩, 1000384), (⟨false, 7, 0⟩, 1000448)]⟩
def f94s6 (a b c : LI) (d e f g : Int) (h : LI) : St := z1i [(1, xb 1), (4, xo 1000256), (5, xi d), (6, xo 1000384), (7, xo 1000448), (9, xi e)] [(1, (30, [yi f, yi g, .sn 3 tI h none]))] [(1000256, (⟨3, .int .i64, a, true, false⟩ : Row)), (1000384, (⟨3, .int .i64, b, true, false⟩ : Row)), (1000448, (⟨3, .int .i64, c, true, false⟩ : Row))]
def f94l6 : z0d := ⟨[1, 4, 5, 6, 7, 9], [1], [], [], [(⟨false, 4, 0⟩, 1000256), (⟨false, 6, 0⟩, 1000384), (⟨false, 7, 0⟩, 1000448)]⟩
def zs9 (a b c : LI) (d e f g h : Int) (i : LI) : St := z1i [(1, xb 1), (4, xo 1000256), (5, xi d), (6, xo 1000384), (7, xo 1000448), (9, xi e), (10, xi f)] [(1, (30, [yi g, yi h, .sn 3 tI i none]))] [(1000256, (⟨3, .int .i64, a, true, false⟩ : Row)), (1000384, (⟨3, .int .i64, b, true, false⟩ : Row)), (1000448, (⟨3, .int .i64, c, true, false⟩ : Row))]
def zve : z0d := ⟨[1, 4, 5, 6, 7, 9, 10], [1], [], [], [(⟨false, 4, 0⟩, 1000256), (⟨false, 6, 0⟩, 1000384), (⟨false, 7, 0⟩, 1000448)]⟩
def zlf (a b : LI) (c d e f : Int) (g : LI) : St := z1i [(1, xb 1), (4, xo 1000256), (5, xi c), (6, xo 1000384), (9, xi d)] [(1, (30, [yi e, yi f, .sn 3 tI g none]))] [(1000256, (⟨3, .int .i64, a, true, false⟩ : Row)), (1000384, (⟨3, .int .i64, b, true, false⟩ : Row))]
def zgx : z0d := ⟨[1, 4, 5, 6, 9], [1], [], [], [(⟨false, 4, 0⟩, 1000256), (⟨false, 6, 0⟩, 1000384)]⟩
def zs8 (a b : LI) (c d e f g : Int) (h : LI) : St := z1i [(1, xb 1), (4, xo 1000256), (5, xi c), (6, xo 1000384), (9, xi d), (11, xi e)] [(1, (30, [yi f, yi g, .sn 3 tI h none]))] [(1000256, (⟨3, .int .i64, a, true, false⟩ : Row)), (1000384, (⟨3, .int .i64, b, true, false⟩ : Row))]
def zvd : z0d := ⟨[1, 4, 5, 6, 9, 11], [1], [], [], [(⟨false, 4, 0⟩, 1000256), (⟨false, 6, 0⟩, 1000384)]⟩
def z4h (a : LI) (b c d : Int) (e : LI) : St := z1i [(1, xb 1), (4, xo 1000256), (12, xi b)] [(1, (30, [yi c, yi d, .sn 3 tI e none]))] [(1000256, (⟨3, .int .i64, a, true, false⟩ : Row))]
def z3j : z0d := ⟨[1, 4, 12], [1], [], [], [(⟨false, 4, 0⟩, 1000256)]⟩
def zhu (a : LI) (b c d e : Int) (f : LI) : St := z1i [(1, xb 1), (4, xo 1000256), (12, xi b), (13, xi c)] [(1, (30, [yi d, yi e, .sn 3 tI f none]))] [(1000256, (⟨3, .int .i64, a, true, false⟩ : Row))]
def zlg : z0d := ⟨[1, 4, 12, 13], [1], [], [], [(⟨false, 4, 0⟩, 1000256)]⟩
def zc4 (a : LI) : St := z1i [(4, xo 1000256)] [] [(1000256, (⟨3, .int .i64, a, true, false⟩ : Row))]
def za0 : z0d := ⟨[4], [], [], [], [(⟨false, 4, 0⟩, 1000256)]⟩
def z4r (a : LI) (b : Bool) : St := z1i [(2, xo 1000128), (3, xB b)] [] [(1000128, (⟨3, .int .i64, a, true, false⟩ : Row))]
def f94l13 : z0d := ⟨[2, 3], [], [⟨⟨false, 2, 0⟩, 30000000, 3, .int .i64, true⟩], [], [(⟨false, 2, 0⟩, 1000128)]⟩
def f94B : Nat → Option z0d := z1g [(2, zc5), (4, zgx), (6, z39), (1, z39), (0, zdy), (10, z3j), (9, z3j), (8, za0), (1000000, f94l13)]
abbrev z3o {ρ : Type} (N : Nat) (c : Code) (p : z0m) (σ : St) (K : KT ρ) : Option ρ := z1n f94G tab f94B N c p σ K
def z3k (n : Nat) : Code := z30 99 (z2a Try.f94) n
theorem f94t1 N a (K : KT ρ) : z3o N (z3k 2) .n (f94s0 a) (z01 (some f94l1) K) =
 z03.Z1 N a (fun b c d => K .nrm (f94s1 b c d)) := by kernel_rfl
theorem f94t3 N a b c (K : KT ρ) : z3o N (z3k 5) .n (f94s1 a b c) (z01 (some zdy) K) =
 z03.Z3 N a b c (fun d a b c => K .nrm (zay d a b c)) := by kernel_rfl
theorem f94t6 N a b c d (K : KT ρ) : z3o N (z3k 19) .n (zay a b c d) (z01 (some z39) K) =
 z03.Z6 N a b c d (fun a e b c d => K .nrm (z4c a e b c d)) := by kernel_rfl
theorem f94t10 N a e b c d (K : KT ρ) : z3o N (z3k 139) .n (z4c a e b c d) (z01 (some z39) K) =
 z03.Z10 N a e b c d (fun a e b c d => K .nrm (z4c a e b c d)) (fun a b c d => K (.exit 0) (zay a b c d)) := by kernel_rfl
theorem f94t14 N a b c d e (K : KT ρ) : z3o N (z3k 1099) .n (z4c a b c d e) (z01 (some z39) K) =
 z03.Z14 N a b c d e (fun a b c d e => K .nrm (z4c a b c d e)) (fun a b c d e => K (.exit 1) (z4c a b c d e)) := by kernel_rfl
theorem f94t16 N a b c d e (K : KT ρ) : z3o N (z3k 2635) .n (z4c a b c d e) (z01 (some zc5) K) =
 z03.Z16 N a b c d e (fun a f g b c d e => K .nrm (zax a f g b c d e)) := by kernel_rfl
theorem f94t18 N a b c d e f g (K : KT ρ) : z3o N (z3k 5707) .n (zax a b c d e f g) (z01 (some zc5) K) =
 z03.Z18 N a b c d e f g (fun a b c d e f g => K .nrm (zax a b c d e f g)) := by kernel_rfl
theorem f94t21 N a b c d e f g (K : KT ρ) : z3o N (z3k 20043) .n (zax a b c d e f g) (z01 (some zvf) K) =
 z03.Z21 N a b c d e f g (fun a b c d h e f g => K .nrm (zsa a b c d h e f g)) := by kernel_rfl
theorem f94t24 N a b c d h e f g (K : KT ρ) : z3o N (z3k 77387) .n (zsa a b c d h e f g) (z01 (some zvf) K) =
 z03.Z24 N a b c d h e f g (fun a b c d h e f g => K .nrm (zsa a b c d h e f g)) (fun a b c d e f g => K (.exit 2) (zax a b c d e f g)) := by kernel_rfl
def f94p23 : z0m := .mk none (some zvf) .n .n
abbrev f94w23 {ρ : Type} (N M : Nat) (σ : St) (K : KT ρ) : Option ρ := z2h (fun σ K => z3o N (z3k 77387) .n σ K) zvf M σ K
theorem zux {ρ : Type} (N : Nat) (K : KT ρ) : ∀ (M : Nat) (a b c : LI) (d h e f : Int) (g : LI), f94w23 N M (zsa a b c d h e f g) K =
 z03.Z23L N (fun a b c d e f g => K (.exit 2) (zax a b c d e f g)) M a b c d h e f g
 | 0, _, _, _, _, _, _, _, _ => rfl
 | M + 1, a, b, c, d, h, e, f, g => z0w (fun k => z03.Z24 N a b c d h e f g k (fun a b c d e f g => K (.exit 2) (zax a b c d e f g))) (f94t24 N (K := z15 (fun σ => f94w23 N M σ K) K) ..) (fx8 fun a b c d h e f g => zux N K M a b c d h e f g) (by kernel_rfl)
theorem f94t23 N a b c d h e f g (K : KT ρ) : z3o N (z3k 44619) f94p23 (zsa a b c d h e f g) (z01 (some zc5) K) =
  z03.Z23 N a b c d h e f g (fun a b c d e f g => K (.exit 2) (zax a b c d e f g)) :=
 z18 (by kernel_rfl) (zux N (z01 (some zc5) K) N a b c d h e f g) (by kernel_rfl)
def zv8 : z0m := .mk (some zc5) none f94p23 .n
theorem f94t22 N a b c d h e f g (K : KT ρ) : z3o N (z3k 28235) zv8 (zsa a b c d h e f g) (z01 (some zc5) K) =
  z03.Z22 N a b c d h e f g (fun a b c d e f g => K .nrm (zax a b c d e f g)) :=
 z0l (by kernel_rfl) (f94t23 N (K := z1c 2 (z01 (some zc5) K)) ..) (by kernel_rfl)
def f94p20 : z0m := .mk (some zvf) none .n zv8
theorem f94t20 N a b c d e f g (K : KT ρ) : z3o N (z3k 11851) f94p20 (zax a b c d e f g) (z01 (some zc5) K) =
  z03.Z20 N a b c d e f g (fun a b c d e f g => K .nrm (zax a b c d e f g)) :=
 z06 (fun k => z03.Z21 N a b c d e f g k) (by kernel_rfl) (f94t21 N (K := z15 (fun σ => z3o N (z3k 28235) zv8 σ (z01 (some zc5) K)) (z01 (some zc5) K)) ..) (fx8 fun a b c d h e f g => f94t22 N a b c d h e f g K) (by kernel_rfl)
theorem f94t26 N a b c d e f g (K : KT ρ) : z3o N (z3k 24139) .n (zax a b c d e f g) (z01 (some f94l6) K) =
 z03.Z26 N a b c d e f g (fun a b c d h e f g => K .nrm (f94s6 a b c d h e f g)) := by kernel_rfl
theorem f94t29 N a b c d e f g h (K : KT ρ) : z3o N (z3k 81483) .n (f94s6 a b c d e f g h) (z01 (some zve) K) =
 z03.Z29 N a b c d e f g h (fun a b c d e i f g h => K .nrm (zs9 a b c d e i f g h)) := by kernel_rfl
theorem f94t32 N a b h c d i e f g (K : KT ρ) : z3o N (z3k 310859) .n (zs9 a b h c d i e f g) (z01 (some zve) K) =
 z03.Z32 N a b h c d i e f g (fun a b h c d i e f g => K .nrm (zs9 a b h c d i e f g)) (fun a b c d e f g => K (.exit 4) (zlf a b c d e f g)) := by kernel_rfl
def f94p31 : z0m := .mk none (some zve) .n .n
abbrev f94w31 {ρ : Type} (N M : Nat) (σ : St) (K : KT ρ) : Option ρ := z2h (fun σ K => z3o N (z3k 310859) .n σ K) zve M σ K
theorem zuw {ρ : Type} (N : Nat) (K : KT ρ) : ∀ (M : Nat) (a b h : LI) (c d i e f : Int) (g : LI), f94w31 N M (zs9 a b h c d i e f g) K =
 z03.Z31L N (fun a b c d e f g => K (.exit 4) (zlf a b c d e f g)) M a b h c d i e f g
 | 0, _, _, _, _, _, _, _, _, _ => rfl
 | M + 1, a, b, h, c, d, i, e, f, g => z0w (fun k => z03.Z32 N a b h c d i e f g k (fun a b c d e f g => K (.exit 4) (zlf a b c d e f g))) (f94t32 N (K := z15 (fun σ => f94w31 N M σ K) K) ..) (fx9 fun a b h c d i e f g => zuw N K M a b h c d i e f g) (by kernel_rfl)
theorem f94t31 N a b h c d i e f g (K : KT ρ) : z3o N (z3k 179787) f94p31 (zs9 a b h c d i e f g) (z01 (some zgx) K) =
  z03.Z31 N a b h c d i e f g (fun a b c d e f g => K (.exit 4) (zlf a b c d e f g)) :=
 z18 (by kernel_rfl) (zuw N (z01 (some zgx) K) N a b h c d i e f g) (by kernel_rfl)
def zv5 : z0m := .mk (some zgx) none f94p31 .n
theorem f94t30 N a b h c d i e f g (K : KT ρ) : z3o N (z3k 114251) zv5 (zs9 a b h c d i e f g) (z01 (some zgx) K) =
  z03.Z30 N a b h c d i e f g (fun a b c d e f g => K .nrm (zlf a b c d e f g)) :=
 z0l (by kernel_rfl) (f94t31 N (K := z1c 4 (z01 (some zgx) K)) ..) (by kernel_rfl)
def f94p28 : z0m := .mk (some zve) none .n zv5
theorem f94t28 N a b h c d e f g (K : KT ρ) : z3o N (z3k 48715) f94p28 (f94s6 a b h c d e f g) (z01 (some zgx) K) =
  z03.Z28 N a b h c d e f g (fun a b c d e f g => K .nrm (zlf a b c d e f g)) :=
 z06 (fun k => z03.Z29 N a b h c d e f g k) (by kernel_rfl) (f94t29 N (K := z15 (fun σ => z3o N (z3k 114251) zv5 σ (z01 (some zgx) K)) (z01 (some zgx) K)) ..) (fx9 fun a b h c d i e f g => f94t30 N a b h c d i e f g K) (by kernel_rfl)
theorem f94t34 N a b c d e f g (K : KT ρ) : z3o N (z3k 97867) .n (zlf a b c d e f g) (z01 (some zvd) K) =
 z03.Z34 N a b c d e f g (fun a b c d h e f g => K .nrm (zs8 a b c d h e f g)) := by kernel_rfl
theorem f94t37 N a f b g h c d e (K : KT ρ) : z3o N (z3k 327243) .n (zs8 a f b g h c d e) (z01 (some zvd) K) =
 z03.Z37 N a f b g h c d e (fun a f b g h c d e => K .nrm (zs8 a f b g h c d e)) (fun a b c d e => K (.exit 6) (z4c a b c d e)) := by kernel_rfl
def f94p36 : z0m := .mk none (some zvd) .n .n
abbrev f94w36 {ρ : Type} (N M : Nat) (σ : St) (K : KT ρ) : Option ρ := z2h (fun σ K => z3o N (z3k 327243) .n σ K) zvd M σ K
theorem zuv {ρ : Type} (N : Nat) (K : KT ρ) : ∀ (M : Nat) (a f : LI) (b g h c d : Int) (e : LI), f94w36 N M (zs8 a f b g h c d e) K =
 z03.Z36L N (fun a b c d e => K (.exit 6) (z4c a b c d e)) M a f b g h c d e
 | 0, _, _, _, _, _, _, _, _ => rfl
 | M + 1, a, f, b, g, h, c, d, e => z0w (fun k => z03.Z37 N a f b g h c d e k (fun a b c d e => K (.exit 6) (z4c a b c d e))) (f94t37 N (K := z15 (fun σ => f94w36 N M σ K) K) ..) (fx8 fun a f b g h c d e => zuv N K M a f b g h c d e) (by kernel_rfl)
theorem f94t36 N a f b g h c d e (K : KT ρ) : z3o N (z3k 196171) f94p36 (zs8 a f b g h c d e) (z01 (some z39) K) =
  z03.Z36 N a f b g h c d e (fun a b c d e => K (.exit 6) (z4c a b c d e)) :=
 z18 (by kernel_rfl) (zuv N (z01 (some z39) K) N a f b g h c d e) (by kernel_rfl)
def zv3 : z0m := .mk (some z39) none f94p36 .n
theorem f94t35 N a f b g h c d e (K : KT ρ) : z3o N (z3k 130635) zv3 (zs8 a f b g h c d e) (z01 (some z39) K) =
  z03.Z35 N a f b g h c d e (fun a b c d e => K .nrm (z4c a b c d e)) :=
 z0l (by kernel_rfl) (f94t36 N (K := z1c 6 (z01 (some z39) K)) ..) (by kernel_rfl)
def zv4 : z0m := .mk (some zvd) none .n zv3
theorem f94t33 N a f b g c d e (K : KT ρ) : z3o N (z3k 65099) zv4 (zlf a f b g c d e) (z01 (some z39) K) =
  z03.Z33 N a f b g c d e (fun a b c d e => K .nrm (z4c a b c d e)) :=
 z06 (fun k => z03.Z34 N a f b g c d e k) (by kernel_rfl) (f94t34 N (K := z15 (fun σ => z3o N (z3k 130635) zv3 σ (z01 (some z39) K)) (z01 (some z39) K)) ..) (fx8 fun a f b g h c d e => f94t35 N a f b g h c d e K) (by kernel_rfl)
def zv6 : z0m := .mk (some zgx) none f94p28 zv4
theorem f94t27 N a f h b g c d e (K : KT ρ) : z3o N (z3k 32331) zv6 (f94s6 a f h b g c d e) (z01 (some z39) K) =
  z03.Z27 N a f h b g c d e (fun a b c d e => K .nrm (z4c a b c d e)) :=
 z06 (fun k => z03.Z28 N a f h b g c d e k) (by kernel_rfl) (f94t28 N (K := z15 (fun σ => z3o N (z3k 65099) zv4 σ (z01 (some z39) K)) (z01 (some z39) K)) ..) (fx7 fun a f b g c d e => f94t33 N a f b g c d e K) (by kernel_rfl)
def zv7 : z0m := .mk (some f94l6) none .n zv6
theorem f94t25 N a f g b c d e (K : KT ρ) : z3o N (z3k 15947) zv7 (zax a f g b c d e) (z01 (some z39) K) =
  z03.Z25 N a f g b c d e (fun a b c d e => K .nrm (z4c a b c d e)) :=
 z06 (fun k => z03.Z26 N a f g b c d e k) (by kernel_rfl) (f94t26 N (K := z15 (fun σ => z3o N (z3k 32331) zv6 σ (z01 (some z39) K)) (z01 (some z39) K)) ..) (fx8 fun a f g b h c d e => f94t27 N a f g b h c d e K) (by kernel_rfl)
def zv9 : z0m := .mk (some zc5) none f94p20 zv7
theorem f94t19 N a f g b c d e (K : KT ρ) : z3o N (z3k 7755) zv9 (zax a f g b c d e) (z01 (some z39) K) =
  z03.Z19 N a f g b c d e (fun a b c d e => K .nrm (z4c a b c d e)) :=
 z06 (fun k => z03.Z20 N a f g b c d e k) (by kernel_rfl) (f94t20 N (K := z15 (fun σ => z3o N (z3k 15947) zv7 σ (z01 (some z39) K)) (z01 (some z39) K)) ..) (fx7 fun a f g b c d e => f94t25 N a f g b c d e K) (by kernel_rfl)
def zva : z0m := .mk (some zc5) none .n zv9
theorem f94t17 N a f g b c d e (K : KT ρ) : z3o N (z3k 3659) zva (zax a f g b c d e) (z01 (some z39) K) =
  z03.Z17 N a f g b c d e (fun a b c d e => K .nrm (z4c a b c d e)) :=
 z06 (fun k => z03.Z18 N a f g b c d e k) (by kernel_rfl) (f94t18 N (K := z15 (fun σ => z3o N (z3k 7755) zv9 σ (z01 (some z39) K)) (z01 (some z39) K)) ..) (fx7 fun a f g b c d e => f94t19 N a f g b c d e K) (by kernel_rfl)
def zvb : z0m := .mk (some zc5) none .n zva
theorem f94t15 N a b c d e (K : KT ρ) : z3o N (z3k 1611) zvb (z4c a b c d e) (z01 (some z39) K) =
  z03.Z15 N a b c d e (fun a b c d e => K .nrm (z4c a b c d e)) :=
 z06 (fun k => z03.Z16 N a b c d e k) (by kernel_rfl) (f94t16 N (K := z15 (fun σ => z3o N (z3k 3659) zva σ (z01 (some z39) K)) (z01 (some z39) K)) ..) (fx7 fun a f g b c d e => f94t17 N a f g b c d e K) (by kernel_rfl)
def f94p13 : z0m := .mk (some z39) none .n zvb
theorem f94t13 N a b c d e (K : KT ρ) : z3o N (z3k 587) f94p13 (z4c a b c d e) (z01 (some z39) K) =
  z03.Z13 N a b c d e (fun a b c d e => K .nrm (z4c a b c d e)) (fun a b c d e => K (.exit 1) (z4c a b c d e)) :=
 z06 (fun k => z03.Z14 N a b c d e k (fun a b c d e => K (.exit 1) (z4c a b c d e))) (by kernel_rfl) (f94t14 N (K := z15 (fun σ => z3o N (z3k 1611) zvb σ (z01 (some z39) K)) (z01 (some z39) K)) ..) (fx5 fun a b c d e => f94t15 N a b c d e K) (by kernel_rfl)
def f94p12 : z0m := .mk (some z39) none f94p13 .n
theorem f94t12 N a b c d e (K : KT ρ) : z3o N (z3k 331) f94p12 (z4c a b c d e) (z01 (some z39) K) =
  z03.Z12 N a b c d e (fun a b c d e => K .nrm (z4c a b c d e)) :=
 z0l (by kernel_rfl) (f94t13 N (K := z1c 1 (z01 (some z39) K)) ..) (by kernel_rfl)
theorem f94t38 N a b c d e (K : KT ρ) : z3o N (z3k 459) .n (z4c a b c d e) (z01 (some z39) K) =
 z03.Z38 N a b c d e (fun a b c d e => K .nrm (z4c a b c d e)) := by kernel_rfl
def zvc : z0m := .mk (some z39) none f94p12 .n
theorem f94t11 N a b c d e (K : KT ρ) : z3o N (z3k 203) zvc (z4c a b c d e) (z01 (some z39) K) =
  z03.Z11 N a b c d e (fun a b c d e => K .nrm (z4c a b c d e)) :=
 z06 (fun k => z03.Z12 N a b c d e k) (by kernel_rfl) (f94t12 N (K := z15 (fun σ => z3o N (z3k 459) .n σ (z01 (some z39) K)) (z01 (some z39) K)) ..) (fx5 fun a b c d e => f94t38 N a b c d e K) (by kernel_rfl)
def f94p9 : z0m := .mk (some z39) none .n zvc
theorem f94t9 N a e b c d (K : KT ρ) : z3o N (z3k 75) f94p9 (z4c a e b c d) (z01 (some z39) K) =
  z03.Z9 N a e b c d (fun a e b c d => K .nrm (z4c a e b c d)) (fun a b c d => K (.exit 0) (zay a b c d)) :=
 z06 (fun k => z03.Z10 N a e b c d k (fun a b c d => K (.exit 0) (zay a b c d))) (by kernel_rfl) (f94t10 N (K := z15 (fun σ => z3o N (z3k 203) zvc σ (z01 (some z39) K)) (z01 (some z39) K)) ..) (fx5 fun a e b c d => f94t11 N a e b c d K) (by kernel_rfl)
def f94p8 : z0m := .mk none (some z39) f94p9 .n
abbrev f94w8 {ρ : Type} (N M : Nat) (σ : St) (K : KT ρ) : Option ρ := z2h (fun σ K => z3o N (z3k 75) f94p9 σ K) z39 M σ K
theorem f94t8L {ρ : Type} (N : Nat) (K : KT ρ) : ∀ (M : Nat) (a : LI) (e b c : Int) (d : LI), f94w8 N M (z4c a e b c d) K =
 z03.Z8L N (fun a b c d => K (.exit 0) (zay a b c d)) M a e b c d
 | 0, _, _, _, _, _ => rfl
 | M + 1, a, e, b, c, d => z0w (fun k => z03.Z9 N a e b c d k (fun a b c d => K (.exit 0) (zay a b c d))) (f94t9 N (K := z15 (fun σ => f94w8 N M σ K) K) ..) (fx5 fun a e b c d => f94t8L N K M a e b c d) (by kernel_rfl)
theorem f94t8 N a e b c d (K : KT ρ) : z3o N (z3k 43) f94p8 (z4c a e b c d) (z01 (some zdy) K) =
  z03.Z8 N a e b c d (fun a b c d => K (.exit 0) (zay a b c d)) :=
 z18 (by kernel_rfl) (f94t8L N (z01 (some zdy) K) N a e b c d) (by kernel_rfl)
def f94p7 : z0m := .mk (some zdy) none f94p8 .n
theorem f94t7 N a e b c d (K : KT ρ) : z3o N (z3k 27) f94p7 (z4c a e b c d) (z01 (some zdy) K) =
  z03.Z7 N a e b c d (fun a b c d => K .nrm (zay a b c d)) :=
 z0l (by kernel_rfl) (f94t8 N (K := z1c 0 (z01 (some zdy) K)) ..) (by kernel_rfl)
def f94p5 : z0m := .mk (some z39) none .n f94p7
theorem f94t5 N a b c d (K : KT ρ) : z3o N (z3k 11) f94p5 (zay a b c d) (z01 (some zdy) K) =
  z03.Z5 N a b c d (fun a b c d => K .nrm (zay a b c d)) :=
 z06 (fun k => z03.Z6 N a b c d k) (by kernel_rfl) (f94t6 N (K := z15 (fun σ => z3o N (z3k 27) f94p7 σ (z01 (some zdy) K)) (z01 (some zdy) K)) ..) (fx5 fun a e b c d => f94t7 N a e b c d K) (by kernel_rfl)
theorem f94t41 N a b c d (K : KT ρ) : z3o N (z3k 39) .n (zay a b c d) (z01 (some z3j) K) =
 z03.Z41 N a b c d (fun a e b c d => K .nrm (z4h a e b c d)) := by kernel_rfl
theorem f94t45 N a b c d e (K : KT ρ) : z3o N (z3k 279) .n (z4h a b c d e) (z01 (some z3j) K) =
 z03.Z45 N a b c d e (fun a b c d e => K .nrm (z4h a b c d e)) (fun a => K (.exit 8) (zc4 a)) := by kernel_rfl
theorem f94t49 N a b c d e (K : KT ρ) : z3o N (z3k 2199) .n (z4h a b c d e) (z01 (some zlg) K) =
 z03.Z49 N a b c d e (fun a b f c d e => K .nrm (zhu a b f c d e)) := by kernel_rfl
theorem f94t52 N a b f c d e (K : KT ρ) : z3o N (z3k 9367) .n (zhu a b f c d e) (z01 (some zlg) K) =
 z03.Z52 N a b f c d e (fun a b f c d e => K .nrm (zhu a b f c d e)) (fun a b c d e => K (.exit 10) (z4h a b c d e)) (fun g h => K .ret (z4r g h)) := by kernel_rfl
def f94p51 : z0m := .mk none (some zlg) .n .n
abbrev f94w51 {ρ : Type} (N M : Nat) (σ : St) (K : KT ρ) : Option ρ := z2h (fun σ K => z3o N (z3k 9367) .n σ K) zlg M σ K
theorem zut {ρ : Type} (N : Nat) (K : KT ρ) : ∀ (M : Nat) (a : LI) (b f c d : Int) (e : LI), f94w51 N M (zhu a b f c d e) K =
 z03.Z51L N (fun a b c d e => K (.exit 10) (z4h a b c d e)) (fun g h => K .ret (z4r g h)) M a b f c d e
 | 0, _, _, _, _, _, _ => rfl
 | M + 1, a, b, f, c, d, e => z0w (fun k => z03.Z52 N a b f c d e k (fun a b c d e => K (.exit 10) (z4h a b c d e)) (fun g h => K .ret (z4r g h))) (f94t52 N (K := z15 (fun σ => f94w51 N M σ K) K) ..) (fx6 fun a b f c d e => zut N K M a b f c d e) (by kernel_rfl)
theorem f94t51 N a b f c d e (K : KT ρ) : z3o N (z3k 5271) f94p51 (zhu a b f c d e) (z01 (some z3j) K) =
  z03.Z51 N a b f c d e (fun a b c d e => K (.exit 10) (z4h a b c d e)) (fun g h => K .ret (z4r g h)) :=
 z18 (by kernel_rfl) (zut N (z01 (some z3j) K) N a b f c d e) (by kernel_rfl)
def zuy : z0m := .mk (some z3j) none f94p51 .n
theorem f94t50 N a b f c d e (K : KT ρ) : z3o N (z3k 3223) zuy (zhu a b f c d e) (z01 (some z3j) K) =
  z03.Z50 N a b f c d e (fun a b c d e => K .nrm (z4h a b c d e)) (fun g h => K .ret (z4r g h)) :=
 z0l (by kernel_rfl) (f94t51 N (K := z1c 10 (z01 (some z3j) K)) ..) (by kernel_rfl)
def f94p48 : z0m := .mk (some zlg) none .n zuy
theorem f94t48 N a b c d e (K : KT ρ) : z3o N (z3k 1175) f94p48 (z4h a b c d e) (z01 (some z3j) K) =
  z03.Z48 N a b c d e (fun a b c d e => K .nrm (z4h a b c d e)) (fun f g => K .ret (z4r f g)) :=
 z06 (fun k => z03.Z49 N a b c d e k) (by kernel_rfl) (f94t49 N (K := z15 (fun σ => z3o N (z3k 3223) zuy σ (z01 (some z3j) K)) (z01 (some z3j) K)) ..) (fx6 fun a b h c d e => f94t50 N a b h c d e K) (by kernel_rfl)
def f94p47 : z0m := .mk (some z3j) none f94p48 .n
theorem f94t47 N a b c d e (K : KT ρ) : z3o N (z3k 663) f94p47 (z4h a b c d e) (z01 (some z3j) K) =
  z03.Z47 N a b c d e (fun a b c d e => K .nrm (z4h a b c d e)) (fun f g => K .ret (z4r f g)) :=
 z0l (by kernel_rfl) (f94t48 N (K := z1c 9 (z01 (some z3j) K)) ..) (by kernel_rfl)
theorem f94t53 N a b c d e (K : KT ρ) : z3o N (z3k 919) .n (z4h a b c d e) (z01 (some z3j) K) =
 z03.Z53 N a b c d e (fun a b c d e => K .nrm (z4h a b c d e)) := by kernel_rfl
def zuz : z0m := .mk (some z3j) none f94p47 .n
theorem f94t46 N a b c d e (K : KT ρ) : z3o N (z3k 407) zuz (z4h a b c d e) (z01 (some z3j) K) =
  z03.Z46 N a b c d e (fun a b c d e => K .nrm (z4h a b c d e)) (fun f g => K .ret (z4r f g)) :=
 z06 (fun k => z03.Z47 N a b c d e k (fun f g => K .ret (z4r f g))) (by kernel_rfl) (f94t47 N (K := z15 (fun σ => z3o N (z3k 919) .n σ (z01 (some z3j) K)) (z01 (some z3j) K)) ..) (fx5 fun a b c d e => f94t53 N a b c d e K) (by kernel_rfl)
def zv0 : z0m := .mk (some z3j) none .n zuz
theorem f94t44 N a b c d e (K : KT ρ) : z3o N (z3k 151) zv0 (z4h a b c d e) (z01 (some z3j) K) =
  z03.Z44 N a b c d e (fun a b c d e => K .nrm (z4h a b c d e)) (fun a => K (.exit 8) (zc4 a)) (fun f g => K .ret (z4r f g)) :=
 z06 (fun k => z03.Z45 N a b c d e k (fun a => K (.exit 8) (zc4 a))) (by kernel_rfl) (f94t45 N (K := z15 (fun σ => z3o N (z3k 407) zuz σ (z01 (some z3j) K)) (z01 (some z3j) K)) ..) (fx5 fun a b c d e => f94t46 N a b c d e K) (by kernel_rfl)
def f94p43 : z0m := .mk none (some z3j) zv0 .n
abbrev f94w43 {ρ : Type} (N M : Nat) (σ : St) (K : KT ρ) : Option ρ := z2h (fun σ K => z3o N (z3k 151) zv0 σ K) z3j M σ K
theorem zuu {ρ : Type} (N : Nat) (K : KT ρ) : ∀ (M : Nat) (a : LI) (b c d : Int) (e : LI), f94w43 N M (z4h a b c d e) K =
 z03.Z43L N (fun a => K (.exit 8) (zc4 a)) (fun f g => K .ret (z4r f g)) M a b c d e
 | 0, _, _, _, _, _ => rfl
 | M + 1, a, b, c, d, e => z0w (fun k => z03.Z44 N a b c d e k (fun a => K (.exit 8) (zc4 a)) (fun f g => K .ret (z4r f g))) (f94t44 N (K := z15 (fun σ => f94w43 N M σ K) K) ..) (fx5 fun a b c d e => zuu N K M a b c d e) (by kernel_rfl)
theorem f94t43 N a b c d e (K : KT ρ) : z3o N (z3k 87) f94p43 (z4h a b c d e) (z01 (some za0) K) =
  z03.Z43 N a b c d e (fun a => K (.exit 8) (zc4 a)) (fun f g => K .ret (z4r f g)) :=
 z18 (by kernel_rfl) (zuu N (z01 (some za0) K) N a b c d e) (by kernel_rfl)
def zv1 : z0m := .mk (some za0) none f94p43 .n
theorem f94t42 N a b c d e (K : KT ρ) : z3o N (z3k 55) zv1 (z4h a b c d e) (z01 (some za0) K) =
  z03.Z42 N a b c d e (fun a => K .nrm (zc4 a)) (fun f g => K .ret (z4r f g)) :=
 z0l (by kernel_rfl) (f94t43 N (K := z1c 8 (z01 (some za0) K)) ..) (by kernel_rfl)
def f94p40 : z0m := .mk (some z3j) none .n zv1
theorem f94t40 N a b c d (K : KT ρ) : z3o N (z3k 23) f94p40 (zay a b c d) (z01 (some za0) K) =
  z03.Z40 N a b c d (fun a => K .nrm (zc4 a)) (fun e f => K .ret (z4r e f)) :=
 z06 (fun k => z03.Z41 N a b c d k) (by kernel_rfl) (f94t41 N (K := z15 (fun σ => z3o N (z3k 55) zv1 σ (z01 (some za0) K)) (z01 (some za0) K)) ..) (fx5 fun a g b c d => f94t42 N a g b c d K) (by kernel_rfl)
theorem f94t54 N a (K : KT ρ) : z3o N (z3k 31) .n (zc4 a) (z01 (some zaz) K) =
 z03.Z54 N a (fun b c => K .ret (z4r b c)) := by kernel_rfl
def zv2 : z0m := .mk (some za0) none f94p40 .n
theorem f94t39 N a b c d (K : KT ρ) : z3o N (z3k 15) zv2 (zay a b c d) (z01 (some zaz) K) =
  z03.Z39 N a b c d (fun e f => K .ret (z4r e f)) :=
 z06 (fun k => z03.Z40 N a b c d k (fun e f => K .ret (z4r e f))) (by kernel_rfl) (f94t40 N (K := z15 (fun σ => z3o N (z3k 31) .n σ (z01 (some zaz) K)) (z01 (some zaz) K)) ..) (funext fun a => f94t54 N a K) (by kernel_rfl)
def f94p4 : z0m := .mk (some zdy) none f94p5 zv2
theorem f94t4 N a b c d (K : KT ρ) : z3o N (z3k 7) f94p4 (zay a b c d) (z01 (some zaz) K) =
  z03.Z4 N a b c d (fun e f => K .ret (z4r e f)) :=
 z06 (fun k => z03.Z5 N a b c d k) (by kernel_rfl) (f94t5 N (K := z15 (fun σ => z3o N (z3k 15) zv2 σ (z01 (some zaz) K)) (z01 (some zaz) K)) ..) (fx4 fun a b c d => f94t39 N a b c d K) (by kernel_rfl)
def f94p2 : z0m := .mk (some zdy) none .n f94p4
theorem f94t2 N a b c (K : KT ρ) : z3o N (z3k 3) f94p2 (f94s1 a b c) (z01 (some zaz) K) =
  z03.Z2 N a b c (fun d e => K .ret (z4r d e)) :=
 z06 (fun k => z03.Z3 N a b c k) (by kernel_rfl) (f94t3 N (K := z15 (fun σ => z3o N (z3k 7) f94p4 σ (z01 (some zaz) K)) (z01 (some zaz) K)) ..) (fx4 fun f a b c => f94t4 N f a b c K) (by kernel_rfl)
def f94p0 : z0m := .mk (some f94l1) none .n f94p2
theorem f94t0 N a (K : KT ρ) : z3o N (z3k 1) f94p0 (f94s0 a) (z01 (some zaz) K) =
  z03.Z0 N a (fun b c => K .ret (z4r b c)) :=
 z06 (fun k => z03.Z1 N a k) (by kernel_rfl) (f94t1 N (K := z15 (fun σ => z3o N (z3k 3) f94p2 σ (z01 (some zaz) K)) (z01 (some zaz) K)) ..) (fx3 fun d e f => f94t2 N d e f K) (by kernel_rfl)
theorem f94m (N : Nat) (a : MT) : z3o N (z3k 1) f94p0 (f94s0 a) (z01 (some zaz) (z47 tab zle Try.f94.results.toList)) = z03.Z0 N a (fun b c => some ((), (b, (c, ())))) :=
 (f94t0 N a (z47 tab zle Try.f94.results.toList)).trans (by kernel_rfl)
theorem f94ok (h : z03.Spec) : z0t Try.prog 94 e94 :=
 z0p (sig := zle) (c := (z3k 1)) (pl := f94p0) (je := (some zaz)) (B := f94B) Try.func94 (by kernel_rfl) (by kernel_rfl) (by kernel_rfl) z3b f94GOk (by kernel_rfl) (by kernel_rfl) (by kernel_rfl) (by kernel_rfl) fun X hb hp => by
  obtain ⟨a, _⟩ := X
  obtain ⟨N, h⟩ := h a hb.1 hp
  exact ⟨N, (f94m N a).trans (h N (Nat.le_refl N))⟩
theorem e94ok : z0t Try.prog 94 e94 := f94ok z03.ok
end Go.Fw
namespace Go.Fw
variable {ρ : Type}
open Go.Proofs
def zly : Sig := ⟨[⟨.pair (.int .i64) (.pair (.int .i64) (.sl 3 (.int .i64))), true, false⟩], [⟨.bool, false, false⟩]⟩
def e51 : z2y := ⟨zly, none, fun X => ((), ((z24.g X.1), ()))⟩
def f51G : Gm := z6a (z6a z27 74 e74) 94 e94
theorem f51GOk : GOk Try.prog f51G := ((GOk.nil).add e74ok (by kernel_rfl)).add e94ok (by kernel_rfl)
def f51lE : z0d := ⟨[], [], [], [], []⟩
def f51s0 (a : MT) : St := z2p zly.ps (a, ())
def f51s1 (a : Bool) : St := z1i [(2, xB a)] [] []
def f51l1 : z0d := ⟨[2], [], [], [], []⟩
def f51B : Nat → Option z0d := z1g [(1000000, f51l1)]
abbrev f51i {ρ : Type} (N : Nat) (c : Code) (p : z0m) (σ : St) (K : KT ρ) : Option ρ := z1n f51G tab f51B N c p σ K
def f51c (n : Nat) : Code := z30 99 (z2a Try.f51) n
theorem f51t0 N a (K : KT ρ) : f51i N (f51c 1) .n (f51s0 a) (z01 (some f51lE) K) =
 z24.Z0 N a (fun b => K .ret (f51s1 b)) := by kernel_rfl
theorem f51m (N : Nat) (a : MT) : f51i N (f51c 1) .n (f51s0 a) (z01 (some f51lE) (z47 tab zly Try.f51.results.toList)) = z24.Z0 N a (fun b => some ((), (b, ()))) :=
 (f51t0 N a (z47 tab zly Try.f51.results.toList)).trans (by kernel_rfl)
theorem f51ok (h : z24.Spec) : z0t Try.prog 51 e51 :=
 z0p (sig := zly) (c := (f51c 1)) (pl := .n) (je := (some f51lE)) (B := f51B) Try.func51 (by kernel_rfl) (by kernel_rfl) (by kernel_rfl) z3b f51GOk (by kernel_rfl) (by kernel_rfl) (by kernel_rfl) (by kernel_rfl) fun X hb hp => by
  obtain ⟨a, _⟩ := X
  obtain ⟨N, h⟩ := h a hb.1
  exact ⟨N, (f51m N a).trans (h N (Nat.le_refl N))⟩
theorem e51ok : z0t Try.prog 51 e51 := f51ok z24.ok
end Go.Fw
namespace Go.Fw
variable {ρ : Type}
open Go.Proofs
def zlh : Sig := ⟨[⟨.sl 3 (.int .i64), false, false⟩], [⟨.sl 3 (.int .i64), false, false⟩]⟩
def e92 : z2y := ⟨zlh, (some fun X => z2u.P X.1), fun X => ((), ((z2u.g X.1), ()))⟩
def f92G : Gm := z27
theorem f92GOk : GOk Try.prog f92G := GOk.nil
def f92lE : z0d := ⟨[], [], [], [], []⟩
def f92s0 (a : LI) : St := z2p zlh.ps (a, ())
def f92s1 (a : LI) : St := z1i [(2, xo 1000128)] [] [(1000128, (⟨3, .int .i64, a, true, false⟩ : Row))]
def f92l1 : z0d := ⟨[2], [], [], [], [(⟨false, 2, 0⟩, 1000128)]⟩
def f92B : Nat → Option z0d := z1g [(1000000, f92l1)]
abbrev f92i {ρ : Type} (N : Nat) (c : Code) (p : z0m) (σ : St) (K : KT ρ) : Option ρ := z1n f92G tab f92B N c p σ K
def f92c (n : Nat) : Code := z30 99 (z2a Try.f92) n
theorem f92t0 N a (K : KT ρ) : f92i N (f92c 1) .n (f92s0 a) (z01 (some f92lE) K) =
 z2u.Z0 N a (fun b => K .ret (f92s1 b)) := by kernel_rfl
theorem f92m (N : Nat) (a : LI) : f92i N (f92c 1) .n (f92s0 a) (z01 (some f92lE) (z47 tab zlh Try.f92.results.toList)) = z2u.Z0 N a (fun b => some ((), (b, ()))) :=
 (f92t0 N a (z47 tab zlh Try.f92.results.toList)).trans (by kernel_rfl)
theorem f92ok (h : z2u.Spec) : z0t Try.prog 92 e92 :=
 z0p (sig := zlh) (c := (f92c 1)) (pl := .n) (je := (some f92lE)) (B := f92B) Try.func92 (by kernel_rfl) (by kernel_rfl) (by kernel_rfl) z3b f92GOk (by kernel_rfl) (by kernel_rfl) (by kernel_rfl) (by kernel_rfl) fun X hb hp => by
  obtain ⟨a, _⟩ := X
  obtain ⟨N, h⟩ := h a hb.1 hp
  exact ⟨N, (f92m N a).trans (h N (Nat.le_refl N))⟩
theorem e92ok : z0t Try.prog 92 e92 := f92ok z2u.ok
end Go.Fw
namespace Go.Fw
variable {ρ : Type}
open Go.Proofs
def zga : Sig := ⟨[⟨.pair (.int .i64) (.pair (.int .i64) (.sl 3 (.int .i64))), true, false⟩], [⟨.pair (.int .i64) (.pair (.int .i64) (.sl 3 (.int .i64))), true, false⟩]⟩
def e102 : z2y := ⟨zga, (some fun X => z10.P X.1), fun X => ((), ((z10.g X.1), ()))⟩
def f102G : Gm := z6a z27 92 e92
theorem f102GOk : GOk Try.prog f102G := (GOk.nil).add e92ok (by kernel_rfl)
def y1k : z0d := ⟨[], [], [], [], []⟩
def f102s0 (a : MT) : St := z2p zga.ps (a, ())
def f102s1 (a : LI) (b c : Int) : St := z1i [(2, xb 2)] [(2, (30, [yi b, yi c, .own 20000130]))] [(20000130, (⟨3, .int .i64, a, true, false⟩ : Row))]
def f102l1 : z0d := ⟨[2], [2], [], [], [(⟨true, 2, 2⟩, 20000130)]⟩
def f102B : Nat → Option z0d := z1g [(1000000, f102l1)]
abbrev f102i {ρ : Type} (N : Nat) (c : Code) (p : z0m) (σ : St) (K : KT ρ) : Option ρ := z1n f102G tab f102B N c p σ K
def f102c (n : Nat) : Code := z30 99 (z2a Try.f102) n
theorem f102t0 N a (K : KT ρ) : f102i N (f102c 1) .n (f102s0 a) (z01 (some y1k) K) =
 z10.Z0 N a (fun b c d => K .ret (f102s1 b c d)) := by kernel_rfl
theorem f102m (N : Nat) (a : MT) : f102i N (f102c 1) .n (f102s0 a) (z01 (some y1k) (z47 tab zga Try.f102.results.toList)) = z10.Z0 N a (fun b c d => some ((), ((c, (d, b)), ()))) :=
 (f102t0 N a (z47 tab zga Try.f102.results.toList)).trans (by kernel_rfl)
theorem f102ok (h : z10.Spec) : z0t Try.prog 102 e102 :=
 z0p (sig := zga) (c := (f102c 1)) (pl := .n) (je := (some y1k)) (B := f102B) Try.func102 (by kernel_rfl) (by kernel_rfl) (by kernel_rfl) z3b f102GOk (by kernel_rfl) (by kernel_rfl) (by kernel_rfl) (by kernel_rfl) fun X hb hp => by
  obtain ⟨a, _⟩ := X
  obtain ⟨N, h⟩ := h a hb.1 hp
  exact ⟨N, (f102m N a).trans (h N (Nat.le_refl N))⟩
theorem e102ok : z0t Try.prog 102 e102 := f102ok z10.ok
end Go.Fw
namespace Go.Fw
variable {ρ : Type}
open Go.Proofs
def zls : Sig := ⟨[⟨.pair (.int .i64) (.pair (.int .i64) (.sl 3 (.int .i64))), true, false⟩, ⟨.int .i64, false, false⟩], [⟨.pair (.int .i64) (.pair (.int .i64) (.sl 3 (.int .i64))), true, false⟩]⟩
def e73 : z2y := ⟨zls, (some fun X => z0a.P X.1 X.2.1), fun X => ((), ((z0a.g X.1 X.2.1), ()))⟩
def f73G : Gm := z6a (z6a z27 80 e80) 102 e102
theorem f73GOk : GOk Try.prog f73G := ((GOk.nil).add zsn (by kernel_rfl)).add e102ok (by kernel_rfl)
def ze1 : z0d := ⟨[], [], [], [], []⟩
def f73s0 (a : MT) (b : Int) : St := z2p zls.ps (a, (b, ()))
def f73s1 (a b c : Int) (d : LI) (e f : Int) : St := z1i [(1, xi a), (2, xb 2), (4, xb 4)] [(2, (30, [yi b, yi c, .sn 3 tI d none])), (4, (30, [yi e, yi f, .nil]))] []
def f73l1 : z0d := ⟨[1, 2, 4], [2, 4], [], [], []⟩
def f73s2 (a : LI) (b c d : Int) (e : LI) (f g h i : Int) : St := z1i [(1, xi b), (2, xb 2), (4, xb 4), (5, xb 5)] [(2, (30, [yi c, yi d, .sn 3 tI e none])), (4, (30, [yi f, yi g, .nil])), (5, (30, [yi h, yi i, .own 20000322]))] [(20000322, (⟨3, .int .i64, a, true, false⟩ : Row))]
def f73l2 : z0d := ⟨[1, 2, 4, 5], [2, 4, 5], [], [], [(⟨true, 5, 2⟩, 20000322)]⟩
def z6e (a : LI) (b c d e : Int) (f : LI) (g h i j : Int) : St := z1i [(1, xi b), (2, xb 2), (4, xb 4), (5, xb 5), (6, xi c)] [(2, (30, [yi d, yi e, .sn 3 tI f none])), (4, (30, [yi g, yi h, .nil])), (5, (30, [yi i, yi j, .own 20000322]))] [(20000322, (⟨3, .int .i64, a, true, false⟩ : Row))]
def z5s : z0d := ⟨[1, 2, 4, 5, 6], [2, 4, 5], [], [], [(⟨true, 5, 2⟩, 20000322)]⟩
def z7e (a : LI) (b c d e f : Int) (g : LI) (h i j l : Int) : St := z1i [(1, xi b), (2, xb 2), (4, xb 4), (5, xb 5), (6, xi c), (7, xi d)] [(2, (30, [yi e, yi f, .sn 3 tI g none])), (4, (30, [yi h, yi i, .nil])), (5, (30, [yi j, yi l, .own 20000322]))] [(20000322, (⟨3, .int .i64, a, true, false⟩ : Row))]
def z4s : z0d := ⟨[1, 2, 4, 5, 6, 7], [2, 4, 5], [], [], [(⟨true, 5, 2⟩, 20000322)]⟩
def f73s5 (a : LI) (b c d e f g : Int) (h : LI) (i j l m : Int) : St := z1i [(1, xi b), (2, xb 2), (4, xb 4), (5, xb 5), (6, xi c), (7, xi d), (8, xi e)] [(2, (30, [yi f, yi g, .sn 3 tI h none])), (4, (30, [yi i, yi j, .nil])), (5, (30, [yi l, yi m, .own 20000322]))] [(20000322, (⟨3, .int .i64, a, true, false⟩ : Row))]
def f73l5 : z0d := ⟨[1, 2, 4, 5, 6, 7, 8], [2, 4, 5], [], [], [(⟨true, 5, 2⟩, 20000322)]⟩
def f73s6 (a : LI) (b c d e f g h : Int) (i : LI) (j l m o : Int) : St := z1i [(1, xi b), (2, xb 2), (4, xb 4), (5, xb 5), (6, xi c), (7, xi d), (8, xi e), (9, xi f)] [(2, (30, [yi g, yi h, .sn 3 tI i none])), (4, (30, [yi j, yi l, .nil])), (5, (30, [yi m, yi o, .own 20000322]))] [(20000322, (⟨3, .int .i64, a, true, false⟩ : Row))]
def f73l6 : z0d := ⟨[1, 2, 4, 5, 6, 7, 8, 9], [2, 4, 5], [], [], [(⟨true, 5, 2⟩, 20000322)]⟩
def f73s7 (a : LI) (b c d e f : Int) (g : Bool) (h i : Int) (j : LI) (l m o p : Int) : St := z1i [(1, xi b), (2, xb 2), (4, xb 4), (5, xb 5), (6, xi c), (7, xi d), (8, xi e), (9, xi f), (32, xB g)] [(2, (30, [yi h, yi i, .sn 3 tI j none])), (4, (30, [yi l, yi m, .nil])), (5, (30, [yi o, yi p, .own 20000322]))] [(20000322, (⟨3, .int .i64, a, true, false⟩ : Row))]
def f73l7 : z0d := ⟨[1, 2, 4, 5, 6, 7, 8, 9, 32], [2, 4, 5], [], [], [(⟨true, 5, 2⟩, 20000322)]⟩
def zjj (a : LI) (b c d e : Int) : St := z1i [(4, xb 4), (5, xb 5)] [(4, (30, [yi b, yi c, .nil])), (5, (30, [yi d, yi e, .own 20000322]))] [(20000322, (⟨3, .int .i64, a, true, false⟩ : Row))]
def zh1 : z0d := ⟨[4, 5], [4, 5], [], [], [(⟨true, 5, 2⟩, 20000322)]⟩
def f73s9 (a : LI) (b c : Int) : St := z1i [(4, xb 4)] [(4, (30, [yi b, yi c, .own 20000258]))] [(20000258, (⟨3, .int .i64, a, true, false⟩ : Row))]
def f73l9 : z0d := ⟨[4], [4], [], [], [(⟨true, 4, 2⟩, 20000258)]⟩
def f73B : Nat → Option z0d := z1g [(4, z4s), (3, z4s), (2, z5s), (1, z5s), (0, zh1), (1000000, f73l9)]
abbrev z6u {ρ : Type} (N : Nat) (c : Code) (p : z0m) (σ : St) (K : KT ρ) : Option ρ := z1n f73G tab f73B N c p σ K
def z6m (n : Nat) : Code := z30 99 (z2a Try.f73) n
theorem f73t1 N b a (K : KT ρ) : z6u N (z6m 2) .n (f73s0 b a) (z01 (some f73l1) K) =
 z0a.Z1 N b a (fun a c d e f g => K .nrm (f73s1 a c d e f g)) := by kernel_rfl
theorem f73t3 N a b c d e f (K : KT ρ) : z6u N (z6m 5) .n (f73s1 a b c d e f) (z01 (some f73l2) K) =
 z0a.Z3 N a b c d e f (fun g a b c d e f h i => K .nrm (f73s2 g a b c d e f h i)) := by kernel_rfl
theorem f73t6 N a b c d e f g h i (K : KT ρ) : z6u N (z6m 19) .n (f73s2 a b c d e f g h i) (z01 (some z5s) K) =
 z0a.Z6 N a b c d e f g h i (fun a b j c d e f g h i => K .nrm (z6e a b j c d e f g h i)) := by kernel_rfl
theorem f73t10 N a f g h i j b c d e (K : KT ρ) : z6u N (z6m 139) .n (z6e a f g h i j b c d e) (z01 (some z5s) K) =
 z0a.Z10 N a f g h i j b c d e (fun a f g h i j b c d e => K .nrm (z6e a f g h i j b c d e)) (fun a b c d e => K (.exit 0) (zjj a b c d e)) := by kernel_rfl
theorem f73t14 N a b c d e f g h i j (K : KT ρ) : z6u N (z6m 1099) .n (z6e a b c d e f g h i j) (z01 (some z4s) K) =
 z0a.Z14 N a b c d e f g h i j (fun a b c l d e f g h i j => K .nrm (z7e a b c l d e f g h i j)) := by kernel_rfl
theorem f73t18 N a b c l d e f g h i j (K : KT ρ) : z6u N (z6m 8779) .n (z7e a b c l d e f g h i j) (z01 (some z4s) K) =
 z0a.Z18 N a b c l d e f g h i j (fun a b c l d e f g h i j => K .nrm (z7e a b c l d e f g h i j)) (fun a b c d e f g h i j => K (.exit 2) (z6e a b c d e f g h i j)) := by kernel_rfl
theorem f73t22 N a b c d e f g h i j l (K : KT ρ) : z6u N (z6m 70219) .n (z7e a b c d e f g h i j l) (z01 (some f73l5) K) =
 z0a.Z22 N a b c d e f g h i j l (fun a b c d m e f g h i j l => K .nrm (f73s5 a b c d m e f g h i j l)) := by kernel_rfl
theorem f73t24 N a b c d e f g h i j l m (K : KT ρ) : z6u N (z6m 168523) .n (f73s5 a b c d e f g h i j l m) (z01 (some f73l6) K) =
 z0a.Z24 N a b c d e f g h i j l m (fun a b c d e o f g h i j l m => K .nrm (f73s6 a b c d e o f g h i j l m)) := by kernel_rfl
theorem f73t27 N a b c d e f g h i j l m o (K : KT ρ) : z6u N (z6m 627275) .n (f73s6 a b c d e f g h i j l m o) (z01 (some f73l7) K) =
 z0a.Z27 N a b c d e f g h i j l m o (fun a b c d e f p g h i j l m o => K .nrm (f73s7 a b c d e f p g h i j l m o)) := by kernel_rfl
theorem f73t28 N a b c d m o p e f g h i j l (K : KT ρ) : z6u N (z6m 889419) .n (f73s7 a b c d m o p e f g h i j l) (z01 (some z4s) K) =
 z0a.Z28 N a b c d m o p e f g h i j l (fun a b c d e f g h i j l => K .nrm (z7e a b c d e f g h i j l)) := by kernel_rfl
def f73p26 : z0m := .mk (some f73l7) none .n .n
theorem f73t26 N a b c d m o e f g h i j l (K : KT ρ) : z6u N (z6m 365131) f73p26 (f73s6 a b c d m o e f g h i j l) (z01 (some z4s) K) =
  z0a.Z26 N a b c d m o e f g h i j l (fun a b c d e f g h i j l => K .nrm (z7e a b c d e f g h i j l)) :=
 z06 (fun k => z0a.Z27 N a b c d m o e f g h i j l k) (by kernel_rfl) (f73t27 N (K := z15 (fun σ => z6u N (z6m 889419) .n σ (z01 (some z4s) K)) (z01 (some z4s) K)) ..) (fx14 fun a b c d m o p e f g h i j l => f73t28 N a b c d m o p e f g h i j l K) (by kernel_rfl)
def zwt : z0m := .mk (some z4s) none f73p26 .n
theorem f73t25 N a b c d m o e f g h i j l (K : KT ρ) : z6u N (z6m 234059) zwt (f73s6 a b c d m o e f g h i j l) (z01 (some z4s) K) =
  z0a.Z25 N a b c d m o e f g h i j l (fun a b c d e f g h i j l => K .nrm (z7e a b c d e f g h i j l)) :=
 z0l (by kernel_rfl) (f73t26 N (K := z1c 4 (z01 (some z4s) K)) ..) (by kernel_rfl)
def zwu : z0m := .mk (some f73l6) none .n zwt
theorem f73t23 N a b c d m e f g h i j l (K : KT ρ) : z6u N (z6m 102987) zwu (f73s5 a b c d m e f g h i j l) (z01 (some z4s) K) =
  z0a.Z23 N a b c d m e f g h i j l (fun a b c d e f g h i j l => K .nrm (z7e a b c d e f g h i j l)) :=
 z06 (fun k => z0a.Z24 N a b c d m e f g h i j l k) (by kernel_rfl) (f73t24 N (K := z15 (fun σ => z6u N (z6m 234059) zwt σ (z01 (some z4s) K)) (z01 (some z4s) K)) ..) (fx13 fun a b c d m o e f g h i j l => f73t25 N a b c d m o e f g h i j l K) (by kernel_rfl)
def f73p21 : z0m := .mk (some f73l5) none .n zwu
theorem f73t21 N a b c d e f g h i j l (K : KT ρ) : z6u N (z6m 37451) f73p21 (z7e a b c d e f g h i j l) (z01 (some z4s) K) =
  z0a.Z21 N a b c d e f g h i j l (fun a b c d e f g h i j l => K .nrm (z7e a b c d e f g h i j l)) :=
 z06 (fun k => z0a.Z22 N a b c d e f g h i j l k) (by kernel_rfl) (f73t22 N (K := z15 (fun σ => z6u N (z6m 102987) zwu σ (z01 (some z4s) K)) (z01 (some z4s) K)) ..) (fx12 fun a b c d m e f g h i j l => f73t23 N a b c d m e f g h i j l K) (by kernel_rfl)
def f73p20 : z0m := .mk (some z4s) none f73p21 .n
theorem f73t20 N a b c d e f g h i j l (K : KT ρ) : z6u N (z6m 21067) f73p20 (z7e a b c d e f g h i j l) (z01 (some z4s) K) =
  z0a.Z20 N a b c d e f g h i j l (fun a b c d e f g h i j l => K .nrm (z7e a b c d e f g h i j l)) :=
 z0l (by kernel_rfl) (f73t21 N (K := z1c 3 (z01 (some z4s) K)) ..) (by kernel_rfl)
theorem f73t29 N a b c d e f g h i j l (K : KT ρ) : z6u N (z6m 29259) .n (z7e a b c d e f g h i j l) (z01 (some z4s) K) =
 z0a.Z29 N a b c d e f g h i j l (fun a b c d e f g h i j l => K .nrm (z7e a b c d e f g h i j l)) := by kernel_rfl
def zwv : z0m := .mk (some z4s) none f73p20 .n
theorem f73t19 N a b c d e f g h i j l (K : KT ρ) : z6u N (z6m 12875) zwv (z7e a b c d e f g h i j l) (z01 (some z4s) K) =
  z0a.Z19 N a b c d e f g h i j l (fun a b c d e f g h i j l => K .nrm (z7e a b c d e f g h i j l)) :=
 z06 (fun k => z0a.Z20 N a b c d e f g h i j l k) (by kernel_rfl) (f73t20 N (K := z15 (fun σ => z6u N (z6m 29259) .n σ (z01 (some z4s) K)) (z01 (some z4s) K)) ..) (zq0 fun a b c d e f g h i j l => f73t29 N a b c d e f g h i j l K) (by kernel_rfl)
def zww : z0m := .mk (some z4s) none .n zwv
theorem f73t17 N a b c l d e f g h i j (K : KT ρ) : z6u N (z6m 4683) zww (z7e a b c l d e f g h i j) (z01 (some z4s) K) =
  z0a.Z17 N a b c l d e f g h i j (fun a b c l d e f g h i j => K .nrm (z7e a b c l d e f g h i j)) (fun a b c d e f g h i j => K (.exit 2) (z6e a b c d e f g h i j)) :=
 z06 (fun k => z0a.Z18 N a b c l d e f g h i j k (fun a b c d e f g h i j => K (.exit 2) (z6e a b c d e f g h i j))) (by kernel_rfl) (f73t18 N (K := z15 (fun σ => z6u N (z6m 12875) zwv σ (z01 (some z4s) K)) (z01 (some z4s) K)) ..) (zq0 fun a b c l d e f g h i j => f73t19 N a b c l d e f g h i j K) (by kernel_rfl)
def f73p16 : z0m := .mk none (some z4s) zww .n
abbrev f73w16 {ρ : Type} (N M : Nat) (σ : St) (K : KT ρ) : Option ρ := z2h (fun σ K => z6u N (z6m 4683) zww σ K) z4s M σ K
theorem zws {ρ : Type} (N : Nat) (K : KT ρ) : ∀ (M : Nat) (a : LI) (b c l d e : Int) (f : LI) (g h i j : Int), f73w16 N M (z7e a b c l d e f g h i j) K =
 z0a.Z16L N (fun a b c d e f g h i j => K (.exit 2) (z6e a b c d e f g h i j)) M a b c l d e f g h i j
 | 0, _, _, _, _, _, _, _, _, _, _, _ => rfl
 | M + 1, a, b, c, l, d, e, f, g, h, i, j => z0w (fun k => z0a.Z17 N a b c l d e f g h i j k (fun a b c d e f g h i j => K (.exit 2) (z6e a b c d e f g h i j))) (f73t17 N (K := z15 (fun σ => f73w16 N M σ K) K) ..) (zq0 fun a b c l d e f g h i j => zws N K M a b c l d e f g h i j) (by kernel_rfl)
theorem f73t16 N a b c l d e f g h i j (K : KT ρ) : z6u N (z6m 2635) f73p16 (z7e a b c l d e f g h i j) (z01 (some z5s) K) =
  z0a.Z16 N a b c l d e f g h i j (fun a b c d e f g h i j => K (.exit 2) (z6e a b c d e f g h i j)) :=
 z18 (by kernel_rfl) (zws N (z01 (some z5s) K) N a b c l d e f g h i j) (by kernel_rfl)
def zwx : z0m := .mk (some z5s) none f73p16 .n
theorem f73t15 N a b c l d e f g h i j (K : KT ρ) : z6u N (z6m 1611) zwx (z7e a b c l d e f g h i j) (z01 (some z5s) K) =
  z0a.Z15 N a b c l d e f g h i j (fun a b c d e f g h i j => K .nrm (z6e a b c d e f g h i j)) :=
 z0l (by kernel_rfl) (f73t16 N (K := z1c 2 (z01 (some z5s) K)) ..) (by kernel_rfl)
def f73p13 : z0m := .mk (some z4s) none .n zwx
theorem f73t13 N a b c d e f g h i j (K : KT ρ) : z6u N (z6m 587) f73p13 (z6e a b c d e f g h i j) (z01 (some z5s) K) =
  z0a.Z13 N a b c d e f g h i j (fun a b c d e f g h i j => K .nrm (z6e a b c d e f g h i j)) :=
 z06 (fun k => z0a.Z14 N a b c d e f g h i j k) (by kernel_rfl) (f73t14 N (K := z15 (fun σ => z6u N (z6m 1611) zwx σ (z01 (some z5s) K)) (z01 (some z5s) K)) ..) (zq0 fun a b c l d e f g h i j => f73t15 N a b c l d e f g h i j K) (by kernel_rfl)
def f73p12 : z0m := .mk (some z5s) none f73p13 .n
theorem f73t12 N a b c d e f g h i j (K : KT ρ) : z6u N (z6m 331) f73p12 (z6e a b c d e f g h i j) (z01 (some z5s) K) =
  z0a.Z12 N a b c d e f g h i j (fun a b c d e f g h i j => K .nrm (z6e a b c d e f g h i j)) :=
 z0l (by kernel_rfl) (f73t13 N (K := z1c 1 (z01 (some z5s) K)) ..) (by kernel_rfl)
theorem f73t30 N a b c d e f g h i j (K : KT ρ) : z6u N (z6m 459) .n (z6e a b c d e f g h i j) (z01 (some z5s) K) =
 z0a.Z30 N a b c d e f g h i j (fun a b c d e f g h i j => K .nrm (z6e a b c d e f g h i j)) := by kernel_rfl
def zwy : z0m := .mk (some z5s) none f73p12 .n
theorem f73t11 N a b c d e f g h i j (K : KT ρ) : z6u N (z6m 203) zwy (z6e a b c d e f g h i j) (z01 (some z5s) K) =
  z0a.Z11 N a b c d e f g h i j (fun a b c d e f g h i j => K .nrm (z6e a b c d e f g h i j)) :=
 z06 (fun k => z0a.Z12 N a b c d e f g h i j k) (by kernel_rfl) (f73t12 N (K := z15 (fun σ => z6u N (z6m 459) .n σ (z01 (some z5s) K)) (z01 (some z5s) K)) ..) (zc2 fun a b c d e f g h i j => f73t30 N a b c d e f g h i j K) (by kernel_rfl)
def f73p9 : z0m := .mk (some z5s) none .n zwy
theorem f73t9 N a f g h i j b c d e (K : KT ρ) : z6u N (z6m 75) f73p9 (z6e a f g h i j b c d e) (z01 (some z5s) K) =
  z0a.Z9 N a f g h i j b c d e (fun a f g h i j b c d e => K .nrm (z6e a f g h i j b c d e)) (fun a b c d e => K (.exit 0) (zjj a b c d e)) :=
 z06 (fun k => z0a.Z10 N a f g h i j b c d e k (fun a b c d e => K (.exit 0) (zjj a b c d e))) (by kernel_rfl) (f73t10 N (K := z15 (fun σ => z6u N (z6m 203) zwy σ (z01 (some z5s) K)) (z01 (some z5s) K)) ..) (zc2 fun a f g h i j b c d e => f73t11 N a f g h i j b c d e K) (by kernel_rfl)
def f73p8 : z0m := .mk none (some z5s) f73p9 .n
abbrev f73w8 {ρ : Type} (N M : Nat) (σ : St) (K : KT ρ) : Option ρ := z2h (fun σ K => z6u N (z6m 75) f73p9 σ K) z5s M σ K
theorem f73t8L {ρ : Type} (N : Nat) (K : KT ρ) : ∀ (M : Nat) (a : LI) (f g h i : Int) (j : LI) (b c d e : Int), f73w8 N M (z6e a f g h i j b c d e) K =
 z0a.Z8L N (fun a b c d e => K (.exit 0) (zjj a b c d e)) M a f g h i j b c d e
 | 0, _, _, _, _, _, _, _, _, _, _ => rfl
 | M + 1, a, f, g, h, i, j, b, c, d, e => z0w (fun k => z0a.Z9 N a f g h i j b c d e k (fun a b c d e => K (.exit 0) (zjj a b c d e))) (f73t9 N (K := z15 (fun σ => f73w8 N M σ K) K) ..) (zc2 fun a f g h i j b c d e => f73t8L N K M a f g h i j b c d e) (by kernel_rfl)
theorem f73t8 N a f g h i j b c d e (K : KT ρ) : z6u N (z6m 43) f73p8 (z6e a f g h i j b c d e) (z01 (some zh1) K) =
  z0a.Z8 N a f g h i j b c d e (fun a b c d e => K (.exit 0) (zjj a b c d e)) :=
 z18 (by kernel_rfl) (f73t8L N (z01 (some zh1) K) N a f g h i j b c d e) (by kernel_rfl)
def f73p7 : z0m := .mk (some zh1) none f73p8 .n
theorem f73t7 N a f g h i j b c d e (K : KT ρ) : z6u N (z6m 27) f73p7 (z6e a f g h i j b c d e) (z01 (some zh1) K) =
  z0a.Z7 N a f g h i j b c d e (fun a b c d e => K .nrm (zjj a b c d e)) :=
 z0l (by kernel_rfl) (f73t8 N (K := z1c 0 (z01 (some zh1) K)) ..) (by kernel_rfl)
def f73p5 : z0m := .mk (some z5s) none .n f73p7
theorem f73t5 N a f g h i b c d e (K : KT ρ) : z6u N (z6m 11) f73p5 (f73s2 a f g h i b c d e) (z01 (some zh1) K) =
  z0a.Z5 N a f g h i b c d e (fun a b c d e => K .nrm (zjj a b c d e)) :=
 z06 (fun k => z0a.Z6 N a f g h i b c d e k) (by kernel_rfl) (f73t6 N (K := z15 (fun σ => z6u N (z6m 27) f73p7 σ (z01 (some zh1) K)) (z01 (some zh1) K)) ..) (zc2 fun a f j g h i b c d e => f73t7 N a f j g h i b c d e K) (by kernel_rfl)
theorem f73t31 N c a b d e (K : KT ρ) : z6u N (z6m 15) .n (zjj c a b d e) (z01 (some ze1) K) =
 z0a.Z31 N c a b d e (fun f a b => K .ret (f73s9 f a b)) := by kernel_rfl
def f73p4 : z0m := .mk (some zh1) none f73p5 .n
theorem f73t4 N c f g h i a b d e (K : KT ρ) : z6u N (z6m 7) f73p4 (f73s2 c f g h i a b d e) (z01 (some ze1) K) =
  z0a.Z4 N c f g h i a b d e (fun j a b => K .ret (f73s9 j a b)) :=
 z06 (fun k => z0a.Z5 N c f g h i a b d e k) (by kernel_rfl) (f73t5 N (K := z15 (fun σ => z6u N (z6m 15) .n σ (z01 (some ze1) K)) (z01 (some ze1) K)) ..) (fx5 fun c a b d e => f73t31 N c a b d e K) (by kernel_rfl)
def f73p2 : z0m := .mk (some f73l2) none .n f73p4
theorem f73t2 N c d e f a b (K : KT ρ) : z6u N (z6m 3) f73p2 (f73s1 c d e f a b) (z01 (some ze1) K) =
  z0a.Z2 N c d e f a b (fun g a b => K .ret (f73s9 g a b)) :=
 z06 (fun k => z0a.Z3 N c d e f a b k) (by kernel_rfl) (f73t3 N (K := z15 (fun σ => z6u N (z6m 7) f73p4 σ (z01 (some ze1) K)) (z01 (some ze1) K)) ..) (fx9 fun h c d e f a b i j => f73t4 N h c d e f a b i j K) (by kernel_rfl)
def f73p0 : z0m := .mk (some f73l1) none .n f73p2
theorem f73t0 N b a (K : KT ρ) : z6u N (z6m 1) f73p0 (f73s0 b a) (z01 (some ze1) K) =
  z0a.Z0 N b a (fun e c d => K .ret (f73s9 e c d)) :=
 z06 (fun k => z0a.Z1 N b a k) (by kernel_rfl) (f73t1 N (K := z15 (fun σ => z6u N (z6m 3) f73p2 σ (z01 (some ze1) K)) (z01 (some ze1) K)) ..) (fx6 fun a f g h c d => f73t2 N a f g h c d K) (by kernel_rfl)
theorem f73m (N : Nat) (a : MT) (b : Int) : z6u N (z6m 1) f73p0 (f73s0 a b) (z01 (some ze1) (z47 tab zls Try.f73.results.toList)) = z0a.Z0 N a b (fun c d e => some ((), ((d, (e, c)), ()))) :=
 (f73t0 N a b (z47 tab zls Try.f73.results.toList)).trans (by kernel_rfl)
theorem f73ok (h : z0a.Spec) : z0t Try.prog 73 e73 :=
 z0p (sig := zls) (c := (z6m 1)) (pl := f73p0) (je := (some ze1)) (B := f73B) Try.func73 (by kernel_rfl) (by kernel_rfl) (by kernel_rfl) z3b f73GOk (by kernel_rfl) (by kernel_rfl) (by kernel_rfl) (by kernel_rfl) fun X hb hp => by
  obtain ⟨a, b, _⟩ := X
  obtain ⟨N, h⟩ := h a b hb.1 hp
  exact ⟨N, (f73m N a b).trans (h N (Nat.le_refl N))⟩
theorem e73ok : z0t Try.prog 73 e73 := f73ok z0a.ok
end Go.Fw
namespace Go.Fw
variable {ρ : Type}
open Go.Proofs
def zm5 : Sig := ⟨[⟨.pair (.int .i64) (.pair (.int .i64) (.sl 3 (.int .i64))), true, false⟩, ⟨.int .i64, false, false⟩], [⟨.pair (.int .i64) (.pair (.int .i64) (.sl 3 (.int .i64))), true, false⟩, ⟨.bool, false, false⟩]⟩
def e28 : z2y := ⟨zm5, none, fun X => ((), ((z0y.g X.1 X.2.1).1, ((z0y.g X.1 X.2.1).2, ())))⟩
def f28G : Gm := z6a (z6a (z6a (z6a z27 51 e51) 72 e72) 73 e73) 74 e74
theorem f28GOk : GOk Try.prog f28G := ((((GOk.nil).add e51ok (by kernel_rfl)).add e72ok (by kernel_rfl)).add e73ok (by kernel_rfl)).add e74ok (by kernel_rfl)
def f28lE : z0d := ⟨[], [], [], [], []⟩
def f28s0 (a : MT) (b : Int) : St := z2p zm5.ps (a, (b, ()))
def f28s1 (a : LI) (b : Bool) (c d : Int) : St := z1i [(4, xb 4), (5, xB b)] [(4, (30, [yi c, yi d, .own 20000258]))] [(20000258, (⟨3, .int .i64, a, true, false⟩ : Row))]
def f28l1 : z0d := ⟨[4, 5], [4], [⟨⟨true, 4, 2⟩, 30000000, 3, .int .i64, true⟩], [], [(⟨true, 4, 2⟩, 20000258)]⟩
def f28B : Nat → Option z0d := z1g [(1000000, f28l1)]
abbrev f28i {ρ : Type} (N : Nat) (c : Code) (p : z0m) (σ : St) (K : KT ρ) : Option ρ := z1n f28G tab f28B N c p σ K
def f28c (n : Nat) : Code := z30 99 (z2a Try.f28) n
theorem f28t0 N a b (K : KT ρ) : f28i N (f28c 1) .n (f28s0 a b) (z01 (some f28lE) K) =
 z0y.Z0 N a b (fun c d e f => K .ret (f28s1 c d e f)) := by kernel_rfl
theorem f28m (N : Nat) (a : MT) (b : Int) : f28i N (f28c 1) .n (f28s0 a b) (z01 (some f28lE) (z47 tab zm5 Try.f28.results.toList)) = z0y.Z0 N a b (fun c d e f => some ((), ((e, (f, c)), (d, ())))) :=
 (f28t0 N a b (z47 tab zm5 Try.f28.results.toList)).trans (by kernel_rfl)
theorem f28ok (h : z0y.Spec) : z0t Try.prog 28 e28 :=
 z0p (sig := zm5) (c := (f28c 1)) (pl := .n) (je := (some f28lE)) (B := f28B) Try.func28 (by kernel_rfl) (by kernel_rfl) (by kernel_rfl) z3b f28GOk (by kernel_rfl) (by kernel_rfl) (by kernel_rfl) (by kernel_rfl) fun X hb hp => by
  obtain ⟨a, b, _⟩ := X
  obtain ⟨N, h⟩ := h a b hb.1
  exact ⟨N, (f28m N a b).trans (h N (Nat.le_refl N))⟩
theorem e28ok : z0t Try.prog 28 e28 := f28ok z0y.ok
end Go.Fw
namespace Go.Fw
variable {ρ : Type}
open Go.Proofs
def f68k : zd9 := ⟨113, [(5, .int .u8)], .pair (.int .i64) (.int .i64)⟩
def zx7 : List PT := [⟨.int .i64, false, false⟩]
def f68rs : List PT := [⟨.sl 3 (.int .i64), false, false⟩]
def e68 : z4w := ⟨f68k, zx7, true, f68rs, (some fun X => z0q.P X.1.1.1 X.1.2 X.2.1), fun X => ((z0q.g X.1.1.1 X.1.2 X.2.1).1, ((), ((z0q.g X.1.1.1 X.1.2 X.2.1).2, ())))⟩
def f68G : Gm := addV z27 69 e69
theorem f68GOk : GOk Try.prog f68G := (GOk.nil).addV zso (by kernel_rfl)
def ze3 : z0d := ⟨[], [], [], [], []⟩
def f68s0 (u0 : Value) (b0 : List Int) (r0 : Int × Int) (a : Int) : St := z37 f68k zx7 [u0] (((b0, ()), r0), (a, ()))
def f68s1 (u0 : Value) (a : Int) (b : List Int) (c d : Int) : St := z1i [(0, xb 100000), (1, xi a), (100000, xb 100000)] [(100000, (113, [.bor u0 5 (.int .u8) b, yi c, yi d]))] []
def f68l1 : z0d := ⟨[0, 1, 100000], [100000], [], [], []⟩
def f68s2 (u0 : Value) (a : LI) (b : Int) (c : List Int) (d e : Int) : St := z1i [(0, xb 100000), (1, xi b), (5, xo 1000320), (100000, xb 100000)] [(100000, (113, [.bor u0 5 (.int .u8) c, yi d, yi e]))] [(1000320, (⟨3, .int .i64, a, true, false⟩ : Row))]
def f68l2 : z0d := ⟨[0, 1, 5, 100000], [100000], [], [], [(⟨false, 5, 0⟩, 1000320)]⟩
def zsf (u0 : Value) (a : LI) (b c : Int) (d : List Int) (e f : Int) : St := z1i [(0, xb 100000), (1, xi b), (5, xo 1000320), (6, xi c), (100000, xb 100000)] [(100000, (113, [.bor u0 5 (.int .u8) d, yi e, yi f]))] [(1000320, (⟨3, .int .i64, a, true, false⟩ : Row))]
def zx8 : z0d := ⟨[0, 1, 5, 6, 100000], [100000], [], [], [(⟨false, 5, 0⟩, 1000320)]⟩
def znx (u0 : Value) (a : LI) (b : List Int) (c d : Int) : St := z1i [(5, xo 1000320), (100000, xb 100000)] [(100000, (113, [.bor u0 5 (.int .u8) b, yi c, yi d]))] [(1000320, (⟨3, .int .i64, a, true, false⟩ : Row))]
def zh3 : z0d := ⟨[5, 100000], [100000], [], [], [(⟨false, 5, 0⟩, 1000320)]⟩
def f68s5 (u0 : Value) (a : LI) (b : List Int) (c d : Int) : St := z1i [(4, xo 1000256), (100000, xb 100000)] [(100000, (113, [.bor u0 5 (.int .u8) b, yi c, yi d]))] [(1000256, (⟨3, .int .i64, a, true, false⟩ : Row))]
def f68l5 : z0d := ⟨[4, 100000], [100000], [], [], [(⟨false, 4, 0⟩, 1000256)]⟩
def f68B : Nat → Option z0d := z1g [(0, zh3), (1000000, f68l5)]
abbrev zlw {ρ : Type} (N : Nat) (c : Code) (p : z0m) (σ : St) (K : KT ρ) : Option ρ := z1n f68G tab f68B N c p σ K
def zk4 (n : Nat) : Code := z30 99 (z2a Try.f68) n
theorem f68t1 N u0 b0 r0 a (K : KT ρ) : zlw N (zk4 2) .n (f68s0 u0 b0 r0 a) (z01 (some f68l1) K) =
 z0q.Z1 N b0 r0 a (fun a b c d => K .nrm (f68s1 u0 a b c d)) := by kernel_rfl
theorem f68t3 N u0 a b c d (K : KT ρ) : zlw N (zk4 5) .n (f68s1 u0 a b c d) (z01 (some f68l2) K) =
 z0q.Z3 N a b c d (fun e a b c d => K .nrm (f68s2 u0 e a b c d)) := by kernel_rfl
theorem f68t6 N u0 a b c d e (K : KT ρ) : zlw N (zk4 19) .n (f68s2 u0 a b c d e) (z01 (some zx8) K) =
 z0q.Z6 N a b c d e (fun a b f c d e => K .nrm (zsf u0 a b f c d e)) := by kernel_rfl
theorem f68t9 N u0 a e f b c d (K : KT ρ) : zlw N (zk4 75) .n (zsf u0 a e f b c d) (z01 (some zx8) K) =
 z0q.Z9 N a e f b c d (fun a e f b c d => K .nrm (zsf u0 a e f b c d)) (fun a b c d => K (.exit 0) (znx u0 a b c d)) := by kernel_rfl
def f68p8 : z0m := .mk none (some zx8) .n .n
abbrev f68w8 {ρ : Type} (N M : Nat) (σ : St) (K : KT ρ) : Option ρ := z2h (fun σ K => zlw N (zk4 75) .n σ K) zx8 M σ K
theorem f68t8L {ρ : Type} (N : Nat) (u0 : Value) (K : KT ρ) : ∀ (M : Nat) (a : LI) (e f : Int) (b : List Int) (c d : Int), f68w8 N M (zsf u0 a e f b c d) K =
 z0q.Z8L N (fun a b c d => K (.exit 0) (znx u0 a b c d)) M a e f b c d
 | 0, _, _, _, _, _, _ => rfl
 | M + 1, a, e, f, b, c, d => z0w (fun k => z0q.Z9 N a e f b c d k (fun a b c d => K (.exit 0) (znx u0 a b c d))) (f68t9 N u0 (K := z15 (fun σ => f68w8 N M σ K) K) ..) (fx6 fun a e f b c d => f68t8L N u0 K M a e f b c d) (by kernel_rfl)
theorem f68t8 N u0 a e f b c d (K : KT ρ) : zlw N (zk4 43) f68p8 (zsf u0 a e f b c d) (z01 (some zh3) K) =
  z0q.Z8 N a e f b c d (fun a b c d => K (.exit 0) (znx u0 a b c d)) :=
 z18 (by kernel_rfl) (f68t8L N u0 (z01 (some zh3) K) N a e f b c d) (by kernel_rfl)
def f68p7 : z0m := .mk (some zh3) none f68p8 .n
theorem f68t7 N u0 a e f b c d (K : KT ρ) : zlw N (zk4 27) f68p7 (zsf u0 a e f b c d) (z01 (some zh3) K) =
  z0q.Z7 N a e f b c d (fun a b c d => K .nrm (znx u0 a b c d)) :=
 z0l (by kernel_rfl) (f68t8 N u0 (K := z1c 0 (z01 (some zh3) K)) ..) (by kernel_rfl)
def f68p5 : z0m := .mk (some zx8) none .n f68p7
theorem f68t5 N u0 a e b c d (K : KT ρ) : zlw N (zk4 11) f68p5 (f68s2 u0 a e b c d) (z01 (some zh3) K) =
  z0q.Z5 N a e b c d (fun a b c d => K .nrm (znx u0 a b c d)) :=
 z06 (fun k => z0q.Z6 N a e b c d k) (by kernel_rfl) (f68t6 N u0 (K := z15 (fun σ => zlw N (zk4 27) f68p7 σ (z01 (some zh3) K)) (z01 (some zh3) K)) ..) (fx6 fun a e f b c d => f68t7 N u0 a e f b c d K) (by kernel_rfl)
theorem f68t10 N u0 d a b c (K : KT ρ) : zlw N (zk4 15) .n (znx u0 d a b c) (z01 (some ze3) K) =
 z0q.Z10 N d a b c (fun e a b c => K .ret (f68s5 u0 e a b c)) := by kernel_rfl
def f68p4 : z0m := .mk (some zh3) none f68p5 .n
theorem f68t4 N u0 d e a b c (K : KT ρ) : zlw N (zk4 7) f68p4 (f68s2 u0 d e a b c) (z01 (some ze3) K) =
  z0q.Z4 N d e a b c (fun f a b c => K .ret (f68s5 u0 f a b c)) :=
 z06 (fun k => z0q.Z5 N d e a b c k) (by kernel_rfl) (f68t5 N u0 (K := z15 (fun σ => zlw N (zk4 15) .n σ (z01 (some ze3) K)) (z01 (some ze3) K)) ..) (fx4 fun d a b c => f68t10 N u0 d a b c K) (by kernel_rfl)
def f68p2 : z0m := .mk (some f68l2) none .n f68p4
theorem f68t2 N u0 d a b c (K : KT ρ) : zlw N (zk4 3) f68p2 (f68s1 u0 d a b c) (z01 (some ze3) K) =
  z0q.Z2 N d a b c (fun e a b c => K .ret (f68s5 u0 e a b c)) :=
 z06 (fun k => z0q.Z3 N d a b c k) (by kernel_rfl) (f68t3 N u0 (K := z15 (fun σ => zlw N (zk4 7) f68p4 σ (z01 (some ze3) K)) (z01 (some ze3) K)) ..) (fx5 fun f d a b c => f68t4 N u0 f d a b c K) (by kernel_rfl)
def f68p0 : z0m := .mk (some f68l1) none .n f68p2
theorem f68t0 N u0 b0 r0 a (K : KT ρ) : zlw N (zk4 1) f68p0 (f68s0 u0 b0 r0 a) (z01 (some ze3) K) =
  z0q.Z0 N b0 r0 a (fun e b c d => K .ret (f68s5 u0 e b c d)) :=
 z06 (fun k => z0q.Z1 N b0 r0 a k) (by kernel_rfl) (f68t1 N u0 (K := z15 (fun σ => zlw N (zk4 3) f68p2 σ (z01 (some ze3) K)) (z01 (some ze3) K)) ..) (fx4 fun a b c d => f68t2 N u0 a b c d K) (by kernel_rfl)
theorem f68m (N : Nat) (u0 : Value) (b0 : List Int) (r0 : Int × Int) (a : Int) : zlw N (zk4 1) f68p0 (f68s0 u0 b0 r0 a) (z01 (some ze3) (z6t tab f68k zx7 true f68rs Try.f68.results.toList)) = z0q.Z0 N b0 r0 a (fun b e c d => some ([u0], ((c, d), ((), (b, ()))))) :=
 (f68t0 N u0 b0 r0 a (z6t tab f68k zx7 true f68rs Try.f68.results.toList)).trans (by kernel_rfl)
theorem f68ok (h : z0q.Spec) : z2c Try.prog 68 e68 :=
 z2g (k := f68k) (ps := zx7) (rs := f68rs) (back := true) (c := (zk4 1)) (pl := f68p0) (je := (some ze3)) (B := f68B) Try.func68 (by kernel_rfl) (by kernel_rfl) (by kernel_rfl) z3b f68GOk (by kernel_rfl) (by kernel_rfl) (by kernel_rfl) fun lit X hl hb1 hb2 hp => by
  obtain ⟨⟨⟨b0, _⟩, r0⟩, a, _⟩ := X
  match lit, hl with
  | [u0], _ =>
   obtain ⟨N, h⟩ := h [u0] b0 r0 a hb1.1 hp
   exact ⟨N, (f68m N u0 b0 r0 a).trans (h N (Nat.le_refl N))⟩
theorem e68ok : z2c Try.prog 68 e68 := f68ok z0q.ok
end Go.Fw
namespace Go.Fw
variable {ρ : Type}
open Go.Proofs
def zg3 : Sig := ⟨[⟨.pair (.int .i64) (.pair (.int .i64) (.sl 3 (.int .i64))), true, false⟩, ⟨.sl 3 (.int .i64), false, false⟩], [⟨.pair (.int .i64) (.pair (.int .i64) (.sl 3 (.int .i64))), true, false⟩]⟩
def e112 : z2y := ⟨zg3, (some fun X => z0h.P X.1 X.2.1), fun X => ((), ((z0h.g X.1 X.2.1), ()))⟩
def f112G : Gm := z6a (z6a z27 80 e80) 102 e102
theorem f112GOk : GOk Try.prog f112G := ((GOk.nil).add zsn (by kernel_rfl)).add e102ok (by kernel_rfl)
def z8p : z0d := ⟨[], [], [], [], []⟩
def y0k (a : MT) (b : LI) : St := z2p zg3.ps (a, (b, ()))
def y0j (a : LI) (b d : Int) (e : LI) (f g : Int) : St := z1i [(1, .c (.sn 3 tI a none)), (2, xb 2), (4, xb 4)] [(2, (30, [yi b, yi d, .sn 3 tI e none])), (4, (30, [yi f, yi g, .nil]))] []
def f112l1 : z0d := ⟨[1, 2, 4], [2, 4], [], [], []⟩
def zqr (a b : LI) (d e : Int) (f : LI) (g h i j : Int) : St := z1i [(1, .c (.sn 3 tI b none)), (2, xb 2), (4, xb 4), (5, xb 5)] [(2, (30, [yi d, yi e, .sn 3 tI f none])), (4, (30, [yi g, yi h, .nil])), (5, (30, [yi i, yi j, .own 20000322]))] [(20000322, (⟨3, .int .i64, a, true, false⟩ : Row))]
def f112l2 : z0d := ⟨[1, 2, 4, 5], [2, 4, 5], [], [], [(⟨true, 5, 2⟩, 20000322)]⟩
def z40 (a b : LI) (d e f : Int) (g : LI) (h i j l : Int) : St := z1i [(1, .c (.sn 3 tI b none)), (2, xb 2), (4, xb 4), (5, xb 5), (6, xi d)] [(2, (30, [yi e, yi f, .sn 3 tI g none])), (4, (30, [yi h, yi i, .nil])), (5, (30, [yi j, yi l, .own 20000322]))] [(20000322, (⟨3, .int .i64, a, true, false⟩ : Row))]
def z31 : z0d := ⟨[1, 2, 4, 5, 6], [2, 4, 5], [], [], [(⟨true, 5, 2⟩, 20000322)]⟩
def zi8 (a b : LI) (d e f g : Int) (h : LI) (i j l m : Int) : St := z1i [(1, .c (.sn 3 tI b none)), (2, xb 2), (4, xb 4), (5, xb 5), (6, xi d), (7, xi e)] [(2, (30, [yi f, yi g, .sn 3 tI h none])), (4, (30, [yi i, yi j, .nil])), (5, (30, [yi l, yi m, .own 20000322]))] [(20000322, (⟨3, .int .i64, a, true, false⟩ : Row))]
def zqs : z0d := ⟨[1, 2, 4, 5, 6, 7], [2, 4, 5], [], [], [(⟨true, 5, 2⟩, 20000322)]⟩
def zi7 (a b : LI) (d e f g h : Int) (i : LI) (j l m o : Int) : St := z1i [(1, .c (.sn 3 tI b none)), (2, xb 2), (4, xb 4), (5, xb 5), (6, xi d), (7, xi e), (8, xi f)] [(2, (30, [yi g, yi h, .sn 3 tI i none])), (4, (30, [yi j, yi l, .nil])), (5, (30, [yi m, yi o, .own 20000322]))] [(20000322, (⟨3, .int .i64, a, true, false⟩ : Row))]
def zmj : z0d := ⟨[1, 2, 4, 5, 6, 7, 8], [2, 4, 5], [], [], [(⟨true, 5, 2⟩, 20000322)]⟩
def zce (a : LI) (b c d e : Int) : St := z1i [(4, xb 4), (5, xb 5)] [(4, (30, [yi b, yi c, .nil])), (5, (30, [yi d, yi e, .own 20000322]))] [(20000322, (⟨3, .int .i64, a, true, false⟩ : Row))]
def zac : z0d := ⟨[4, 5], [4, 5], [], [], [(⟨true, 5, 2⟩, 20000322)]⟩
def zqq (a : LI) (b c : Int) : St := z1i [(4, xb 4)] [(4, (30, [yi b, yi c, .own 20000258]))] [(20000258, (⟨3, .int .i64, a, true, false⟩ : Row))]
def f112l7 : z0d := ⟨[4], [4], [], [], [(⟨true, 4, 2⟩, 20000258)]⟩
def f112B : Nat → Option z0d := z1g [(2, z31), (1, z31), (0, zac), (1000000, f112l7)]
abbrev z43 {ρ : Type} (N : Nat) (c : Code) (p : z0m) (σ : St) (K : KT ρ) : Option ρ := z1n f112G tab f112B N c p σ K
def z3x (n : Nat) : Code := z30 99 (z2a Try.f112) n
theorem f112t1 N b a (K : KT ρ) : z43 N (z3x 2) .n (y0k b a) (z01 (some f112l1) K) =
 z0h.Z1 N b a (fun a c d e f g => K .nrm (y0j a c d e f g)) := by kernel_rfl
theorem f112t3 N a b c d e f (K : KT ρ) : z43 N (z3x 5) .n (y0j a b c d e f) (z01 (some f112l2) K) =
 z0h.Z3 N a b c d e f (fun g a b c d e f h i => K .nrm (zqr g a b c d e f h i)) := by kernel_rfl
theorem f112t6 N a b c d e f g h i (K : KT ρ) : z43 N (z3x 19) .n (zqr a b c d e f g h i) (z01 (some z31) K) =
 z0h.Z6 N a b c d e f g h i (fun a b j c d e f g h i => K .nrm (z40 a b j c d e f g h i)) := by kernel_rfl
theorem f112t10 N a f g h i j b c d e (K : KT ρ) : z43 N (z3x 139) .n (z40 a f g h i j b c d e) (z01 (some z31) K) =
 z0h.Z10 N a f g h i j b c d e (fun a f g h i j b c d e => K .nrm (z40 a f g h i j b c d e)) (fun a b c d e => K (.exit 0) (zce a b c d e)) := by kernel_rfl
theorem f112t14 N a b c d e f g h i j (K : KT ρ) : z43 N (z3x 1099) .n (z40 a b c d e f g h i j) (z01 (some zqs) K) =
 z0h.Z14 N a b c d e f g h i j (fun a b c l d e f g h i j => K .nrm (zi8 a b c l d e f g h i j)) := by kernel_rfl
theorem f112t16 N a b c d e f g h i j l (K : KT ρ) : z43 N (z3x 2635) .n (zi8 a b c d e f g h i j l) (z01 (some zqs) K) =
 z0h.Z16 N a b c d e f g h i j l (fun a b c d e f g h i j l => K .nrm (zi8 a b c d e f g h i j l)) := by kernel_rfl
theorem f112t18 N a b c d e f g h i j l (K : KT ρ) : z43 N (z3x 5707) .n (zi8 a b c d e f g h i j l) (z01 (some zmj) K) =
 z0h.Z18 N a b c d e f g h i j l (fun a b c d m e f g h i j l => K .nrm (zi7 a b c d m e f g h i j l)) := by kernel_rfl
theorem f112t21 N a b c l m d e f g h i j (K : KT ρ) : z43 N (z3x 20043) .n (zi7 a b c l m d e f g h i j) (z01 (some zmj) K) =
 z0h.Z21 N a b c l m d e f g h i j (fun a b c l m d e f g h i j => K .nrm (zi7 a b c l m d e f g h i j)) (fun a b c d e f g h i j => K (.exit 2) (z40 a b c d e f g h i j)) := by kernel_rfl
def y0o : z0m := .mk none (some zmj) .n .n
abbrev y0h {ρ : Type} (N M : Nat) (σ : St) (K : KT ρ) : Option ρ := z2h (fun σ K => z43 N (z3x 20043) .n σ K) zmj M σ K
theorem zqp {ρ : Type} (N : Nat) (K : KT ρ) : ∀ (M : Nat) (a b : LI) (c l m d e : Int) (f : LI) (g h i j : Int), y0h N M (zi7 a b c l m d e f g h i j) K =
 z0h.Z20L N (fun a b c d e f g h i j => K (.exit 2) (z40 a b c d e f g h i j)) M a b c l m d e f g h i j
 | 0, _, _, _, _, _, _, _, _, _, _, _, _ => rfl
 | M + 1, a, b, c, l, m, d, e, f, g, h, i, j => z0w (fun k => z0h.Z21 N a b c l m d e f g h i j k (fun a b c d e f g h i j => K (.exit 2) (z40 a b c d e f g h i j))) (f112t21 N (K := z15 (fun σ => y0h N M σ K) K) ..) (fx12 fun a b c l m d e f g h i j => zqp N K M a b c l m d e f g h i j) (by kernel_rfl)
theorem f112t20 N a b c l m d e f g h i j (K : KT ρ) : z43 N (z3x 11851) y0o (zi7 a b c l m d e f g h i j) (z01 (some z31) K) =
  z0h.Z20 N a b c l m d e f g h i j (fun a b c d e f g h i j => K (.exit 2) (z40 a b c d e f g h i j)) :=
 z18 (by kernel_rfl) (zqp N (z01 (some z31) K) N a b c l m d e f g h i j) (by kernel_rfl)
def zon : z0m := .mk (some z31) none y0o .n
theorem f112t19 N a b c l m d e f g h i j (K : KT ρ) : z43 N (z3x 7755) zon (zi7 a b c l m d e f g h i j) (z01 (some z31) K) =
  z0h.Z19 N a b c l m d e f g h i j (fun a b c d e f g h i j => K .nrm (z40 a b c d e f g h i j)) :=
 z0l (by kernel_rfl) (f112t20 N (K := z1c 2 (z01 (some z31) K)) ..) (by kernel_rfl)
def zoo : z0m := .mk (some zmj) none .n zon
theorem f112t17 N a b c l d e f g h i j (K : KT ρ) : z43 N (z3x 3659) zoo (zi8 a b c l d e f g h i j) (z01 (some z31) K) =
  z0h.Z17 N a b c l d e f g h i j (fun a b c d e f g h i j => K .nrm (z40 a b c d e f g h i j)) :=
 z06 (fun k => z0h.Z18 N a b c l d e f g h i j k) (by kernel_rfl) (f112t18 N (K := z15 (fun σ => z43 N (z3x 7755) zon σ (z01 (some z31) K)) (z01 (some z31) K)) ..) (fx12 fun a b c l m d e f g h i j => f112t19 N a b c l m d e f g h i j K) (by kernel_rfl)
def zop : z0m := .mk (some zqs) none .n zoo
theorem f112t15 N a b c l d e f g h i j (K : KT ρ) : z43 N (z3x 1611) zop (zi8 a b c l d e f g h i j) (z01 (some z31) K) =
  z0h.Z15 N a b c l d e f g h i j (fun a b c d e f g h i j => K .nrm (z40 a b c d e f g h i j)) :=
 z06 (fun k => z0h.Z16 N a b c l d e f g h i j k) (by kernel_rfl) (f112t16 N (K := z15 (fun σ => z43 N (z3x 3659) zoo σ (z01 (some z31) K)) (z01 (some z31) K)) ..) (zq0 fun a b c l d e f g h i j => f112t17 N a b c l d e f g h i j K) (by kernel_rfl)
def y0q : z0m := .mk (some zqs) none .n zop
theorem f112t13 N a b c d e f g h i j (K : KT ρ) : z43 N (z3x 587) y0q (z40 a b c d e f g h i j) (z01 (some z31) K) =
  z0h.Z13 N a b c d e f g h i j (fun a b c d e f g h i j => K .nrm (z40 a b c d e f g h i j)) :=
 z06 (fun k => z0h.Z14 N a b c d e f g h i j k) (by kernel_rfl) (f112t14 N (K := z15 (fun σ => z43 N (z3x 1611) zop σ (z01 (some z31) K)) (z01 (some z31) K)) ..) (zq0 fun a b c l d e f g h i j => f112t15 N a b c l d e f g h i j K) (by kernel_rfl)
def y0r : z0m := .mk (some z31) none y0q .n
theorem f112t12 N a b c d e f g h i j (K : KT ρ) : z43 N (z3x 331) y0r (z40 a b c d e f g h i j) (z01 (some z31) K) =
  z0h.Z12 N a b c d e f g h i j (fun a b c d e f g h i j => K .nrm (z40 a b c d e f g h i j)) :=
 z0l (by kernel_rfl) (f112t13 N (K := z1c 1 (z01 (some z31) K)) ..) (by kernel_rfl)
theorem f112t22 N a b c d e f g h i j (K : KT ρ) : z43 N (z3x 459) .n (z40 a b c d e f g h i j) (z01 (some z31) K) =
 z0h.Z22 N a b c d e f g h i j (fun a b c d e f g h i j => K .nrm (z40 a b c d e f g h i j)) := by kernel_rfl
def zoq : z0m := .mk (some z31) none y0r .n
theorem f112t11 N a b c d e f g h i j (K : KT ρ) : z43 N (z3x 203) zoq (z40 a b c d e f g h i j) (z01 (some z31) K) =
  z0h.Z11 N a b c d e f g h i j (fun a b c d e f g h i j => K .nrm (z40 a b c d e f g h i j)) :=
 z06 (fun k => z0h.Z12 N a b c d e f g h i j k) (by kernel_rfl) (f112t12 N (K := z15 (fun σ => z43 N (z3x 459) .n σ (z01 (some z31) K)) (z01 (some z31) K)) ..) (zc2 fun a b c d e f g h i j => f112t22 N a b c d e f g h i j K) (by kernel_rfl)
def y0l : z0m := .mk (some z31) none .n zoq
theorem f112t9 N a f g h i j b c d e (K : KT ρ) : z43 N (z3x 75) y0l (z40 a f g h i j b c d e) (z01 (some z31) K) =
  z0h.Z9 N a f g h i j b c d e (fun a f g h i j b c d e => K .nrm (z40 a f g h i j b c d e)) (fun a b c d e => K (.exit 0) (zce a b c d e)) :=
 z06 (fun k => z0h.Z10 N a f g h i j b c d e k (fun a b c d e => K (.exit 0) (zce a b c d e))) (by kernel_rfl) (f112t10 N (K := z15 (fun σ => z43 N (z3x 203) zoq σ (z01 (some z31) K)) (z01 (some z31) K)) ..) (zc2 fun a f g h i j b c d e => f112t11 N a f g h i j b c d e K) (by kernel_rfl)
def f112p8 : z0m := .mk none (some z31) y0l .n
abbrev f112w8 {ρ : Type} (N M : Nat) (σ : St) (K : KT ρ) : Option ρ := z2h (fun σ K => z43 N (z3x 75) y0l σ K) z31 M σ K
theorem y0i {ρ : Type} (N : Nat) (K : KT ρ) : ∀ (M : Nat) (a f : LI) (g h i : Int) (j : LI) (b c d e : Int), f112w8 N M (z40 a f g h i j b c d e) K =
 z0h.Z8L N (fun a b c d e => K (.exit 0) (zce a b c d e)) M a f g h i j b c d e
 | 0, _, _, _, _, _, _, _, _, _, _ => rfl
 | M + 1, a, f, g, h, i, j, b, c, d, e => z0w (fun k => z0h.Z9 N a f g h i j b c d e k (fun a b c d e => K (.exit 0) (zce a b c d e))) (f112t9 N (K := z15 (fun σ => f112w8 N M σ K) K) ..) (zc2 fun a f g h i j b c d e => y0i N K M a f g h i j b c d e) (by kernel_rfl)
theorem f112t8 N a f g h i j b c d e (K : KT ρ) : z43 N (z3x 43) f112p8 (z40 a f g h i j b c d e) (z01 (some zac) K) =
  z0h.Z8 N a f g h i j b c d e (fun a b c d e => K (.exit 0) (zce a b c d e)) :=
 z18 (by kernel_rfl) (y0i N (z01 (some zac) K) N a f g h i j b c d e) (by kernel_rfl)
def y0m : z0m := .mk (some zac) none f112p8 .n
theorem f112t7 N a f g h i j b c d e (K : KT ρ) : z43 N (z3x 27) y0m (z40 a f g h i j b c d e) (z01 (some zac) K) =
  z0h.Z7 N a f g h i j b c d e (fun a b c d e => K .nrm (zce a b c d e)) :=
 z0l (by kernel_rfl) (f112t8 N (K := z1c 0 (z01 (some zac) K)) ..) (by kernel_rfl)
def f112p5 : z0m := .mk (some z31) none .n y0m
theorem f112t5 N a f g h i b c d e (K : KT ρ) : z43 N (z3x 11) f112p5 (zqr a f g h i b c d e) (z01 (some zac) K) =
  z0h.Z5 N a f g h i b c d e (fun a b c d e => K .nrm (zce a b c d e)) :=
 z06 (fun k => z0h.Z6 N a f g h i b c d e k) (by kernel_rfl) (f112t6 N (K := z15 (fun σ => z43 N (z3x 27) y0m σ (z01 (some zac) K)) (z01 (some zac) K)) ..) (zc2 fun a f j g h i b c d e => f112t7 N a f j g h i b c d e K) (by kernel_rfl)
theorem f112t23 N c a b d e (K : KT ρ) : z43 N (z3x 15) .n (zce c a b d e) (z01 (some z8p) K) =
 z0h.Z23 N c a b d e (fun f a b => K .ret (zqq f a b)) := by kernel_rfl
def y0n : z0m := .mk (some zac) none f112p5 .n
theorem f112t4 N c f g h i a b d e (K : KT ρ) : z43 N (z3x 7) y0n (zqr c f g h i a b d e) (z01 (some z8p) K) =
  z0h.Z4 N c f g h i a b d e (fun j a b => K .ret (zqq j a b)) :=
 z06 (fun k => z0h.Z5 N c f g h i a b d e k) (by kernel_rfl) (f112t5 N (K := z15 (fun σ => z43 N (z3x 15) .n σ (z01 (some z8p) K)) (z01 (some z8p) K)) ..) (fx5 fun c a b d e => f112t23 N c a b d e K) (by kernel_rfl)
def y0p : z0m := .mk (some f112l2) none .n y0n
theorem f112t2 N c d e f a b (K : KT ρ) : z43 N (z3x 3) y0p (y0j c d e f a b) (z01 (some z8p) K) =
  z0h.Z2 N c d e f a b (fun g a b => K .ret (zqq g a b)) :=
 z06 (fun k => z0h.Z3 N c d e f a b k) (by kernel_rfl) (f112t3 N (K := z15 (fun σ => z43 N (z3x 7) y0n σ (z01 (some z8p) K)) (z01 (some z8p) K)) ..) (fx9 fun h c d e f a b i j => f112t4 N h c d e f a b i j K) (by kernel_rfl)
def y0s : z0m := .mk (some f112l1) none .n y0p
theorem f112t0 N b a (K : KT ρ) : z43 N (z3x 1) y0s (y0k b a) (z01 (some z8p) K) =
  z0h.Z0 N b a (fun e c d => K .ret (zqq e c d)) :=
 z06 (fun k => z0h.Z1 N b a k) (by kernel_rfl) (f112t1 N (K := z15 (fun σ => z43 N (z3x 3) y0p σ (z01 (some z8p) K)) (z01 (some z8p) K)) ..) (fx6 fun a f g h c d => f112t2 N a f g h c d K) (by kernel_rfl)
theorem f112m (N : Nat) (a : MT) (b : LI) : z43 N (z3x 1) y0s (y0k a b) (z01 (some z8p) (z47 tab zg3 Try.f112.results.toList)) = z0h.Z0 N a b (fun c d e => some ((), ((d, (e, c)), ()))) :=
 (f112t0 N a b (z47 tab zg3 Try.f112.results.toList)).trans (by kernel_rfl)
theorem f112ok (h : z0h.Spec) : z0t Try.prog 112 e112 :=
 z0p (sig := zg3) (c := (z3x 1)) (pl := y0s) (je := (some z8p)) (B := f112B) Try.func112 (by kernel_rfl) (by kernel_rfl) (by kernel_rfl) z3b f112GOk (by kernel_rfl) (by kernel_rfl) (by kernel_rfl) (by kernel_rfl) fun X hb hp => by
  obtain ⟨a, b, _⟩ := X
  obtain ⟨N, h⟩ := h a b hb.1 hb.2.1 hp
  exact ⟨N, (f112m N a b).trans (h N (Nat.le_refl N))⟩
theorem e112ok : z0t Try.prog 112 e112 := f112ok z0h.ok
end Go.Fw
namespace Go.Fw
variable {ρ : Type}
open Go.Proofs
def zz0 : zd9 := ⟨113, [(5, .int .u8)], .pair (.int .i64) (.int .i64)⟩
def zmb : List PT := [⟨.pair (.int .i64) (.pair (.int .i64) (.sl 3 (.int .i64))), true, false⟩]
def zqd : List PT := [⟨.pair (.int .i64) (.pair (.int .i64) (.sl 3 (.int .i64))), true, false⟩]
def e127 : z4w := ⟨zz0, zmb, true, zqd, (some fun X => z0k.P X.1.1.1 X.1.2 X.2.1), fun X => ((z0k.g X.1.1.1 X.1.2 X.2.1).1, ((), ((z0k.g X.1.1.1 X.1.2 X.2.1).2, ())))⟩
def f127G : Gm := z6a (addV (addV (z6a z27 28 e28) 68 e68) 69 e69) 112 e112
theorem f127GOk : GOk Try.prog f127G := ((((GOk.nil).add e28ok (by kernel_rfl)).addV e68ok (by kernel_rfl)).addV zso (by kernel_rfl)).add e112ok (by kernel_rfl)
def z8m : z0d := ⟨[], [], [], [], []⟩
def zyu (u0 : Value) (b0 : List Int) (r0 : Int × Int) (a : MT) : St := z37 zz0 zmb [u0] (((b0, ()), r0), (a, ()))
def zaa (u0 : Value) (a : List Int) (b c d e : Int) (f : LI) (g h : Int) : St := z1i [(0, xb 100000), (3, xb 3), (4, xb 4), (100000, xb 100000)] [(100000, (113, [.bor u0 5 (.int .u8) a, yi b, yi c])), (3, (30, [yi d, yi e, .sn 3 tI f none])), (4, (30, [yi g, yi h, .nil]))] []
def z8n : z0d := ⟨[0, 3, 4, 100000], [100000, 3, 4], [], [], []⟩
def zqc (u0 : Value) (a : Int) (b : List Int) (c d e f : Int) (g : LI) (h i : Int) : St := z1i [(0, xb 100000), (3, xb 3), (4, xb 4), (5, xi a), (100000, xb 100000)] [(100000, (113, [.bor u0 5 (.int .u8) b, yi c, yi d])), (3, (30, [yi e, yi f, .sn 3 tI g none])), (4, (30, [yi h, yi i, .nil]))] []
def f127l2 : z0d := ⟨[0, 3, 4, 5, 100000], [100000, 3, 4], [], [], []⟩
def zyt (u0 : Value) (a b : Int) (c : List Int) (d e f g : Int) (h : LI) (i j : Int) : St := z1i [(0, xb 100000), (3, xb 3), (4, xb 4), (5, xi a), (6, xi b), (100000, xb 100000)] [(100000, (113, [.bor u0 5 (.int .u8) c, yi d, yi e])), (3, (30, [yi f, yi g, .sn 3 tI h none])), (4, (30, [yi i, yi j, .nil]))] []
def f127l3 : z0d := ⟨[0, 3, 4, 5, 6, 100000], [100000, 3, 4], [], [], []⟩
def zys (u0 : Value) (a b : Int) (c : List Int) (d e f g : Int) (h : LI) (i j : Int) : St := z1i [(0, xb 100000), (3, xb 3), (4, xb 4), (5, xi a), (6, xi b), (100000, xb 100000)] [(100000, (113, [.bor u0 5 (.int .u8) c, yi d, yi e])), (3, (30, [yi f, yi g, .sn 3 tI h none])), (4, (30, [yi i, yi j, .nil]))] []
def zyz : z0d := ⟨[0, 3, 4, 5, 6, 100000], [100000, 3, 4], [], [(⟨true, 3, 2⟩, 3, .int .i64)], []⟩
def zqb (u0 : Value) (a : LI) (b c : Int) (d : List Int) (e f : Int) : St := z1i [(4, xb 4), (100000, xb 100000)] [(4, (30, [yi b, yi c, .own 20000258])), (100000, (113, [.bor u0 5 (.int .u8) d, yi e, yi f]))] [(20000258, (⟨3, .int .i64, a, true, false⟩ : Row))]
def f127l5 : z0d := ⟨[4, 100000], [4, 100000], [], [], [(⟨true, 4, 2⟩, 20000258)]⟩
def f127B : Nat → Option z0d := z1g [(0, z8n), (1000000, f127l5)]
abbrev z99 {ρ : Type} (N : Nat) (c : Code) (p : z0m) (σ : St) (K : KT ρ) : Option ρ := z1n f127G tab f127B N c p σ K
def z8w (n : Nat) : Code := z30 99 (z2a Try.f127) n
theorem f127t1 N u0 b0 r0 a (K : KT ρ) : z99 N (z8w 2) .n (zyu u0 b0 r0 a) (z01 (some z8n) K) =
 z0k.Z1 N b0 r0 a (fun b c d e f g h i => K .nrm (zaa u0 b c d e f g h i)) := by kernel_rfl
theorem f127t3 N u0 a b c d e f g h (K : KT ρ) : z99 N (z8w 5) .n (zaa u0 a b c d e f g h) (z01 (some f127l2) K) =
 z0k.Z3 N a b c d e f g h (fun i a b c d e f g h => K .nrm (zqc u0 i a b c d e f g h)) := by kernel_rfl
theorem f127t6 N u0 a b c d e f g h i (K : KT ρ) : z99 N (z8w 19) .n (zqc u0 a b c d e f g h i) (z01 (some f127l3) K) =
 z0k.Z6 N a b c d e f g h i (fun a j b c d e f g h i => K .nrm (zyt u0 a j b c d e f g h i)) := by kernel_rfl
theorem f127t9 N u0 i j a b c d e f g h (K : KT ρ) : z99 N (z8w 75) .n (zys u0 i j a b c d e f g h) (z01 (some zyz) K) =
 z0k.Z9 N i j a b c d e f g h (fun i j a b c d e f g h => K .nrm (zys u0 i j a b c d e f g h)) (fun a b c d e f g h => K (.exit 0) (zaa u0 a b c d e f g h)) := by kernel_rfl
def f127p8 : z0m := .mk none (some zyz) .n .n
abbrev f127w8 {ρ : Type} (N M : Nat) (σ : St) (K : KT ρ) : Option ρ := z2h (fun σ K => z99 N (z8w 75) .n σ K) zyz M σ K
theorem zyr {ρ : Type} (N : Nat) (u0 : Value) (K : KT ρ) : ∀ (M : Nat) (i j : Int) (a : List Int) (b c d e : Int) (f : LI) (g h : Int), f127w8 N M (zys u0 i j a b c d e f g h) K =
 z0k.Z8L N (fun a b c d e f g h => K (.exit 0) (zaa u0 a b c d e f g h)) M i j a b c d e f g h
 | 0, _, _, _, _, _, _, _, _, _, _ => rfl
 | M + 1, i, j, a, b, c, d, e, f, g, h => z0w (fun k => z0k.Z9 N i j a b c d e f g h k (fun a b c d e f g h => K (.exit 0) (zaa u0 a b c d e f g h))) (f127t9 N u0 (K := z15 (fun σ => f127w8 N M σ K) K) ..) (zc2 fun i j a b c d e f g h => zyr N u0 K M i j a b c d e f g h) (by kernel_rfl)
theorem f127t8 N u0 i j a b c d e f g h (K : KT ρ) : z99 N (z8w 43) f127p8 (zyt u0 i j a b c d e f g h) (z01 (some z8n) K) =
  z0k.Z8 N i j a b c d e f g h (fun a b c d e f g h => K (.exit 0) (zaa u0 a b c d e f g h)) :=
 z18 (by kernel_rfl) (zyr N u0 (z01 (some z8n) K) N i j a b c d e f g h) (by kernel_rfl)
def zyv : z0m := .mk (some z8n) none f127p8 .n
theorem f127t7 N u0 i j a b c d e f g h (K : KT ρ) : z99 N (z8w 27) zyv (zyt u0 i j a b c d e f g h) (z01 (some z8n) K) =
  z0k.Z7 N i j a b c d e f g h (fun a b c d e f g h => K .nrm (zaa u0 a b c d e f g h)) :=
 z0l (by kernel_rfl) (f127t8 N u0 (K := z1c 0 (z01 (some z8n) K)) ..) (by kernel_rfl)
def f127p5 : z0m := .mk (some f127l3) none .n zyv
theorem f127t5 N u0 i a b c d e f g h (K : KT ρ) : z99 N (z8w 11) f127p5 (zqc u0 i a b c d e f g h) (z01 (some z8n) K) =
  z0k.Z5 N i a b c d e f g h (fun a b c d e f g h => K .nrm (zaa u0 a b c d e f g h)) :=
 z06 (fun k => z0k.Z6 N i a b c d e f g h k) (by kernel_rfl) (f127t6 N u0 (K := z15 (fun σ => z99 N (z8w 27) zyv σ (z01 (some z8n) K)) (z01 (some z8n) K)) ..) (zc2 fun i j a b c d e f g h => f127t7 N u0 i j a b c d e f g h K) (by kernel_rfl)
theorem f127t10 N u0 a b c f g h d e (K : KT ρ) : z99 N (z8w 15) .n (zaa u0 a b c f g h d e) (z01 (some z8m) K) =
 z0k.Z10 N a b c f g h d e (fun i d e a b c => K .ret (zqb u0 i d e a b c)) := by kernel_rfl
def zyw : z0m := .mk (some z8n) none f127p5 .n
theorem f127t4 N u0 i a b c f g h d e (K : KT ρ) : z99 N (z8w 7) zyw (zqc u0 i a b c f g h d e) (z01 (some z8m) K) =
  z0k.Z4 N i a b c f g h d e (fun j d e a b c => K .ret (zqb u0 j d e a b c)) :=
 z06 (fun k => z0k.Z5 N i a b c f g h d e k) (by kernel_rfl) (f127t5 N u0 (K := z15 (fun σ => z99 N (z8w 15) .n σ (z01 (some z8m) K)) (z01 (some z8m) K)) ..) (fx8 fun a b c f g h d e => f127t10 N u0 a b c f g h d e K) (by kernel_rfl)
def zyx : z0m := .mk (some f127l2) none .n zyw
theorem f127t2 N u0 a b c f g h d e (K : KT ρ) : z99 N (z8w 3) zyx (zaa u0 a b c f g h d e) (z01 (some z8m) K) =
  z0k.Z2 N a b c f g h d e (fun i d e a b c => K .ret (zqb u0 i d e a b c)) :=
 z06 (fun k => z0k.Z3 N a b c f g h d e k) (by kernel_rfl) (f127t3 N u0 (K := z15 (fun σ => z99 N (z8w 7) zyw σ (z01 (some z8m) K)) (z01 (some z8m) K)) ..) (fx9 fun j a b c f g h d e => f127t4 N u0 j a b c f g h d e K) (by kernel_rfl)
def zyy : z0m := .mk (some z8n) none .n zyx
theorem f127t0 N u0 b0 r0 a (K : KT ρ) : z99 N (z8w 1) zyy (zyu u0 b0 r0 a) (z01 (some z8m) K) =
  z0k.Z0 N b0 r0 a (fun g b c d e f => K .ret (zqb u0 g b c d e f)) :=
 z06 (fun k => z0k.Z1 N b0 r0 a k) (by kernel_rfl) (f127t1 N u0 (K := z15 (fun σ => z99 N (z8w 3) zyx σ (z01 (some z8m) K)) (z01 (some z8m) K)) ..) (fx8 fun d e f h i j b c => f127t2 N u0 d e f h i j b c K) (by kernel_rfl)
theorem f127m (N : Nat) (u0 : Value) (b0 : List Int) (r0 : Int × Int) (a : MT) : z99 N (z8w 1) zyy (zyu u0 b0 r0 a) (z01 (some z8m) (z6t tab zz0 zmb true zqd Try.f127.results.toList)) = z0k.Z0 N b0 r0 a (fun b c d g e f => some ([u0], ((e, f), ((), ((c, (d, b)), ()))))) :=
 (f127t0 N u0 b0 r0 a (z6t tab zz0 zmb true zqd Try.f127.results.toList)).trans (by kernel_rfl)
theorem f127ok (h : z0k.Spec) : z2c Try.prog 127 e127 :=
 z2g (k := zz0) (ps := zmb) (rs := zqd) (back := true) (c := (z8w 1)) (pl := zyy) (je := (some z8m)) (B := f127B) Try.func127 (by kernel_rfl) (by kernel_rfl) (by kernel_rfl) z3b f127GOk (by kernel_rfl) (by kernel_rfl) (by kernel_rfl) fun lit X hl hb1 hb2 hp => by
  obtain ⟨⟨⟨b0, _⟩, r0⟩, a, _⟩ := X
  match lit, hl with
  | [u0], _ =>
   obtain ⟨N, h⟩ := h [u0] b0 r0 a hb1.1 hb2.1 hp
   exact ⟨N, (f127m N u0 b0 r0 a).trans (h N (Nat.le_refl N))⟩
theorem e127ok : z2c Try.prog 127 e127 := f127ok z0k.ok
end Go.Fw
namespace Go.Fw
variable {ρ : Type}
open Go.Proofs
def y14 : zd9 := ⟨113, [(5, .int .u8)], .pair (.int .i64) (.int .i64)⟩
def zmm : List PT := [⟨.int .i64, false, false⟩]
def zqu : List PT := [⟨.pair (.int .i64) (.pair (.int .i64) (.sl 3 (.int .i64))), true, false⟩, ⟨.str, false, false⟩]
def e106 : z4w := ⟨y14, zmm, true, zqu, (some fun X => z1d.P X.1.1.1 X.1.2 X.2.1), fun X => ((z1d.g X.1.1.1 X.1.2 X.2.1).1, ((), ((z1d.g X.1.1.1 X.1.2 X.2.1).2.1, ((z1d.g X.1.1.1 X.1.2 X.2.1).2.2, ()))))⟩
def f106G : Gm := addV (addV z27 126 e126) 127 e127
theorem f106GOk : GOk Try.prog f106G := ((GOk.nil).addV e126ok (by kernel_rfl)).addV e127ok (by kernel_rfl)
def y13 : z0d := ⟨[], [], [], [], []⟩
def f106s0 (u0 : Value) (b0 : List Int) (r0 : Int × Int) (a : Int) : St := z37 y14 zmm [u0] (((b0, ()), r0), (a, ()))
def f106s1 (u0 : Value) (a : LI) (b : ByteArray) (d e : Int) (f : List Int) (g h : Int) : St := z1i [(4, xb 4), (5, .c (.str b)), (100000, xb 100000)] [(4, (30, [yi d, yi e, .own 20000258])), (100000, (113, [.bor u0 5 (.int .u8) f, yi g, yi h]))] [(20000258, (⟨3, .int .i64, a, true, false⟩ : Row))]
def f106l1 : z0d := ⟨[4, 5, 100000], [4, 100000], [], [], [(⟨true, 4, 2⟩, 20000258)]⟩
def f106B : Nat → Option z0d := z1g [(1000000, f106l1)]
abbrev f106i {ρ : Type} (N : Nat) (c : Code) (p : z0m) (σ : St) (K : KT ρ) : Option ρ := z1n f106G tab f106B N c p σ K
def f106c (n : Nat) : Code := z30 99 (z2a Try.f106) n
theorem f106t0 N u0 b0 r0 a (K : KT ρ) : f106i N (f106c 1) .n (f106s0 u0 b0 r0 a) (z01 (some y13) K) =
 z1d.Z0 N b0 r0 a (fun b c d e f g h => K .ret (f106s1 u0 b c d e f g h)) := by kernel_rfl
theorem f106m (N : Nat) (u0 : Value) (b0 : List Int) (r0 : Int × Int) (a : Int) : f106i N (f106c 1) .n (f106s0 u0 b0 r0 a) (z01 (some y13) (z6t tab y14 zmm true zqu Try.f106.results.toList)) = z1d.Z0 N b0 r0 a (fun b c d e h f g => some ([u0], ((f, g), ((), ((d, (e, b)), (c, ())))))) :=
 (f106t0 N u0 b0 r0 a (z6t tab y14 zmm true zqu Try.f106.results.toList)).trans (by kernel_rfl)
theorem f106ok (h : z1d.Spec) : z2c Try.prog 106 e106 :=
 z2g (k := y14) (ps := zmm) (rs := zqu) (back := true) (c := (f106c 1)) (pl := .n) (je := (some y13)) (B := f106B) Try.func106 (by kernel_rfl) (by kernel_rfl) (by kernel_rfl) z3b f106GOk (by kernel_rfl) (by kernel_rfl) (by kernel_rfl) fun lit X hl hb1 hb2 hp => by
  obtain ⟨⟨⟨b0, _⟩, r0⟩, a, _⟩ := X
  match lit, hl with
  | [u0], _ =>
   obtain ⟨N, h⟩ := h [u0] b0 r0 a hb1.1 hp
   exact ⟨N, (f106m N u0 b0 r0 a).trans (h N (Nat.le_refl N))⟩
theorem e106ok : z2c Try.prog 106 e106 := f106ok z1d.ok
end Go.Fw
namespace Go.Fw
variable {ρ : Type}
open Go.Proofs
def f67k : zd9 := ⟨113, [(5, .int .u8)], .pair (.int .i64) (.int .i64)⟩
def zx9 : List PT := []
def f67rs : List PT := [⟨.pair (.int .i64) (.pair (.int .i64) (.sl 3 (.int .i64))), true, false⟩]
def e67 : z4w := ⟨f67k, zx9, true, f67rs, (some fun X => z13.P X.1.1.1 X.1.2), fun X => ((z13.g X.1.1.1 X.1.2).1, ((), ((z13.g X.1.1.1 X.1.2).2, ())))⟩
def f67G : Gm := addV (addV (addV z27 104 e104) 105 e105) 106 e106
theorem f67GOk : GOk Try.prog f67G := (((GOk.nil).addV e104ok (by kernel_rfl)).addV e105ok (by kernel_rfl)).addV e106ok (by kernel_rfl)
def f67lE : z0d := ⟨[], [], [], [], []⟩
def f67s0 (u0 : Value) (b0 : List Int) (r0 : Int × Int) : St := z37 f67k zx9 [u0] (((b0, ()), r0), ())
def f67s1 (u0 : Value) (a : LI) (b c : Int) (d : List Int) (e f : Int) : St := z1i [(2, xb 2), (100000, xb 100000)] [(2, (30, [yi b, yi c, .own 20000130])), (100000, (113, [.bor u0 5 (.int .u8) d, yi e, yi f]))] [(20000130, (⟨3, .int .i64, a, true, false⟩ : Row))]
def f67l1 : z0d := ⟨[2, 100000], [2, 100000], [], [], [(⟨true, 2, 2⟩, 20000130)]⟩
def f67B : Nat → Option z0d := z1g [(1000000, f67l1)]
abbrev f67i {ρ : Type} (N : Nat) (c : Code) (p : z0m) (σ : St) (K : KT ρ) : Option ρ := z1n f67G tab f67B N c p σ K
def f67c (n : Nat) : Code := z30 99 (z2a Try.f67) n
theorem f67t0 N u0 b0 r0 (K : KT ρ) : f67i N (f67c 1) .n (f67s0 u0 b0 r0) (z01 (some f67lE) K) =
 z13.Z0 N b0 r0 (fun a b c d e f => K .ret (f67s1 u0 a b c d e f)) := by kernel_rfl
theorem f67m (N : Nat) (u0 : Value) (b0 : List Int) (r0 : Int × Int) : f67i N (f67c 1) .n (f67s0 u0 b0 r0) (z01 (some f67lE) (z6t tab f67k zx9 true f67rs Try.f67.results.toList)) = z13.Z0 N b0 r0 (fun a b c f d e => some ([u0], ((d, e), ((), ((b, (c, a)), ()))))) :=
 (f67t0 N u0 b0 r0 (z6t tab f67k zx9 true f67rs Try.f67.results.toList)).trans (by kernel_rfl)
theorem f67ok (h : z13.Spec) : z2c Try.prog 67 e67 :=
 z2g (k := f67k) (ps := zx9) (rs := f67rs) (back := true) (c := (f67c 1)) (pl := .n) (je := (some f67lE)) (B := f67B) Try.func67 (by kernel_rfl) (by kernel_rfl) (by kernel_rfl) z3b f67GOk (by kernel_rfl) (by kernel_rfl) (by kernel_rfl) fun lit X hl hb1 hb2 hp => by
  obtain ⟨⟨⟨b0, _⟩, r0⟩, _⟩ := X
  match lit, hl with
  | [u0], _ =>
   obtain ⟨N, h⟩ := h [u0] b0 r0 hb1.1 hp
   exact ⟨N, (f67m N u0 b0 r0).trans (h N (Nat.le_refl N))⟩
theorem e67ok : z2c Try.prog 67 e67 := f67ok z13.ok
end Go.Fw
