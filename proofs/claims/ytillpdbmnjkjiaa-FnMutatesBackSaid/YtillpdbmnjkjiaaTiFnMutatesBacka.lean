/- The ties: the program's text comes to the plain functions. Nothing is assumed. -/
import Derived.Test.YtillpdbmnjkjiaaFwc
import Derived.Test.YtillpdbmnjkjiaaProg
import Derived.Test.YtillpdbmnjkjiaaPuFnMutatesBacka
import Derived.Test.YtillpdbmnjkjiaaPuFnMutatesBackb
noncomputable section
set_option linter.unusedVariables false
set_option linter.unusedSimpArgs false
set_option maxRecDepth 100000
namespace Go.Fw
open Go.Proofs
def tab : Tab := lookTab [
 (2, ⟨false, .int .i64, [.int .i64 0], [], none, 8⟩),
 (3, ⟨false, .int .i64, [.int .i64 0], [], none, 8⟩),
 (4, ⟨false, .bool, [.bool false], [], none, 1⟩),
 (5, ⟨false, .int .u8, [.int .u8 0], [], none, 1⟩),
 (6, ⟨false, .int .u8, [.int .u8 0], [], none, 1⟩),
 (7, ⟨true, .pair (.int .i64) (.pair (.int .i64) (.pair (.bool) (.int .u8))), [.int .i64 0, .int .i64 0, .bool false, .int .u8 0], [(0, 1, false), (1, 1, false), (2, 1, false), (3, 1, false)], none, 24⟩),
 (8, ⟨true, .pair (.int .i64) (.pair (.int .i64) (.pair (.bool) (.int .u8))), [.int .i64 0, .int .i64 0, .bool false, .int .u8 0], [(0, 1, false), (1, 1, false), (2, 1, false), (3, 1, false)], none, 24⟩),
 (9, ⟨false, .str, [.str ByteArray.empty], [], none, 16⟩),
 (10, ⟨false, .str, [.str ByteArray.empty], [], none, 16⟩),
 (11, ⟨false, .str, [.str ByteArray.empty], [], none, 16⟩),
 (12, ⟨false, .int .u64, [.int .u64 0], [], none, 8⟩),
 (13, ⟨true, .pair (.str) (.int .u64), [.str ByteArray.empty, .int .u64 0], [(0, 1, false), (1, 1, false)], none, 24⟩),
 (14, ⟨true, .pair (.str) (.int .u64), [.str ByteArray.empty, .int .u64 0], [(0, 1, false), (1, 1, false)], none, 24⟩),
 (20, ⟨false, .err, [.err false], [], none, 16⟩),
 (21, ⟨false, .int .i32, [.int .i32 0], [], none, 4⟩),
 (22, ⟨false, .sl 3 (.int .i64), [.nil], [], some 3, 24⟩),
 (23, ⟨true, .pair (.int .i64) (.pair (.int .i64) (.sl 3 (.int .i64))), [.int .i64 0, .int .i64 0, .nil], [(0, 1, false), (1, 1, false), (2, 1, false)], none, 40⟩),
 (24, ⟨true, .pair (.int .i64) (.pair (.int .i64) (.sl 3 (.int .i64))), [.int .i64 0, .int .i64 0, .nil], [(0, 1, false), (1, 1, false), (2, 1, false)], none, 40⟩),
 (25, ⟨false, .sl 103 (.pair (.int .i64) (.sl 135 (.pair (.sl 3 (.int .i64)) (.int .i64)))), [.nil], [], some 103, 24⟩),
 (26, ⟨true, .pair (.pair (.int .i64) (.pair (.int .i64) (.sl 3 (.int .i64)))) (.sl 103 (.pair (.int .i64) (.sl 135 (.pair (.sl 3 (.int .i64)) (.int .i64))))), [.int .i64 0, .int .i64 0, .nil, .nil], [(0, 3, true), (3, 1, false)], none, 64⟩),
 (27, ⟨true, .pair (.pair (.int .i64) (.pair (.int .i64) (.sl 3 (.int .i64)))) (.sl 103 (.pair (.int .i64) (.sl 135 (.pair (.sl 3 (.int .i64)) (.int .i64))))), [.int .i64 0, .int .i64 0, .nil, .nil], [(0, 3, true), (3, 1, false)], none, 64⟩),
 (30, ⟨true, .pair (.int .i64) (.pair (.int .i64) (.sl 3 (.int .i64))), [.int .i64 0, .int .i64 0, .nil], [(0, 1, false), (1, 1, false), (2, 1, false)], none, 40⟩),
 (31, ⟨false, .sl 71 (.pair (.int .i64) (.sl 107 (.pair (.sl 3 (.int .i64)) (.int .i64)))), [.nil], [], some 71, 24⟩),
 (32, ⟨true, .pair (.pair (.int .i64) (.pair (.int .i64) (.sl 3 (.int .i64)))) (.sl 71 (.pair (.int .i64) (.sl 107 (.pair (.sl 3 (.int .i64)) (.int .i64))))), [.int .i64 0, .int .i64 0, .nil, .nil], [(0, 3, true), (3, 1, false)], none, 64⟩),
 (33, ⟨true, .pair (.pair (.int .i64) (.pair (.int .i64) (.sl 3 (.int .i64)))) (.sl 71 (.pair (.int .i64) (.sl 107 (.pair (.sl 3 (.int .i64)) (.int .i64))))), [.int .i64 0, .int .i64 0, .nil, .nil], [(0, 3, true), (3, 1, false)], none, 64⟩),
 (38, ⟨false, .sl 22 (.sl 3 (.int .i64)), [.nil], [], some 22, 24⟩),
 (47, ⟨false, .sl 5 (.int .u8), [.nil], [], some 5, 24⟩),
 (69, ⟨false, .sl 107 (.pair (.sl 3 (.int .i64)) (.int .i64)), [.nil], [], some 107, 24⟩),
 (70, ⟨true, .pair (.int .i64) (.sl 107 (.pair (.sl 3 (.int .i64)) (.int .i64))), [.int .i64 0, .nil], [(0, 1, false), (1, 1, false)], none, 32⟩),
 (71, ⟨true, .pair (.int .i64) (.sl 107 (.pair (.sl 3 (.int .i64)) (.int .i64))), [.int .i64 0, .nil], [(0, 1, false), (1, 1, false)], none, 32⟩),
 (77, ⟨true, .pair (.sl 22 (.sl 3 (.int .i64))) (.bool), [.nil, .bool false], [(0, 1, false), (1, 1, false)], none, 32⟩),
 (78, ⟨true, .pair (.sl 22 (.sl 3 (.int .i64))) (.bool), [.nil, .bool false], [(0, 1, false), (1, 1, false)], none, 32⟩),
 (88, ⟨false, .sl 30 (.pair (.int .i64) (.pair (.int .i64) (.sl 3 (.int .i64)))), [.nil], [], some 30, 24⟩),
 (96, ⟨false, .sl 4 (.bool), [.nil], [], some 4, 24⟩),
 (101, ⟨false, .sl 135 (.pair (.sl 3 (.int .i64)) (.int .i64)), [.nil], [], some 135, 24⟩),
 (102, ⟨true, .pair (.int .i64) (.sl 135 (.pair (.sl 3 (.int .i64)) (.int .i64))), [.int .i64 0, .nil], [(0, 1, false), (1, 1, false)], none, 32⟩),
 (103, ⟨true, .pair (.int .i64) (.sl 135 (.pair (.sl 3 (.int .i64)) (.int .i64))), [.int .i64 0, .nil], [(0, 1, false), (1, 1, false)], none, 32⟩),
 (106, ⟨true, .pair (.sl 3 (.int .i64)) (.int .i64), [.nil, .int .i64 0], [(0, 1, false), (1, 1, false)], none, 32⟩),
 (107, ⟨true, .pair (.sl 3 (.int .i64)) (.int .i64), [.nil, .int .i64 0], [(0, 1, false), (1, 1, false)], none, 32⟩),
 (112, ⟨true, .pair (.sl 5 (.int .u8)) (.pair (.int .i64) (.int .i64)), [.nil, .int .i64 0, .int .i64 0], [(0, 1, false), (1, 1, false), (2, 1, false)], none, 40⟩),
 (113, ⟨true, .pair (.sl 5 (.int .u8)) (.pair (.int .i64) (.int .i64)), [.nil, .int .i64 0, .int .i64 0], [(0, 1, false), (1, 1, false), (2, 1, false)], none, 40⟩),
 (131, ⟨false, .int .u64, [.int .u64 0], [], none, 8⟩),
 (135, ⟨true, .pair (.sl 3 (.int .i64)) (.int .i64), [.nil, .int .i64 0], [(0, 1, false), (1, 1, false)], none, 32⟩),
 (139, ⟨false, .sl 9 (.str), [.nil], [], some 9, 24⟩),
 (148, ⟨false, .int .u32, [.int .u32 0], [], none, 4⟩),
 (149, ⟨false, .int .u8, [.int .u8 0], [], none, 1⟩),
 (150, ⟨false, .int .u8, [.int .u8 0], [], none, 1⟩),
 (153, ⟨false, .int .i32, [.int .i32 0], [], none, 4⟩),
 (154, ⟨false, .int .i32, [.int .i32 0], [], none, 4⟩)]
theorem tabOk : TOk Try.prog tab := TOk.of (by kernel_rfl)
instance : Inv Try.prog := Inv.triv _
end Go.Fw
namespace Go.Fw
variable {ρ : Type}
open Go.Proofs
def f25sig : Sig := ⟨[⟨.sl 5 (.int .u8), false, false⟩], [⟨.bool, false, false⟩]⟩
def e25 : Entry := ⟨f25sig, none, fun X => ((), ((laws_big.g X.1), ()))⟩
def f25G : Gm := emptyG
theorem f25GOk : GOk Try.prog f25G := GOk.nil
def f25lE : Clean := ⟨[], [], [], [], []⟩
def f25s0 (a : List Int) : St := initSt f25sig.ps (a, ())
def f25s1 (a : Bool) : St := stOf [(2, xB a)] [] []
def f25l1 : Clean := ⟨[2], [], [], [], []⟩
def f25B : Nat → Option Clean := lookL [(1000000, f25l1)]
abbrev f25i {ρ : Type} (N : Nat) (c : Code) (p : Plan) (σ : St) (K : KT ρ) : Option ρ := iCode f25G tab f25B N c p σ K
def f25c (n : Nat) : Code := codeN 99 (bodyOf Try.f25) n
theorem f25t0 N a (K : KT ρ) : f25i N (f25c 1) .n (f25s0 a) (joinK (some f25lE) K) =
 laws_big.Z0 N a (fun b => K .ret (f25s1 b)) := by kernel_rfl
theorem f25m (N : Nat) (a : List Int) : f25i N (f25c 1) .n (f25s0 a) (joinK (some f25lE) (finK tab f25sig Try.f25.results.toList)) = laws_big.Z0 N a (fun b => some ((), (b, ()))) :=
 (f25t0 N a (finK tab f25sig Try.f25.results.toList)).trans (by kernel_rfl)
theorem f25ok (h : laws_big.Spec) : EntryOk Try.prog 25 e25 :=
 entry_of_code (sig := f25sig) (c := (f25c 1)) (pl := .n) (je := (some f25lE)) (B := f25B) Try.func25 (by kernel_rfl) (by kernel_rfl) (by kernel_rfl) tabOk f25GOk (by kernel_rfl) (by kernel_rfl) (by kernel_rfl) (by kernel_rfl) fun X hb hp => by
  obtain ⟨a, _⟩ := X
  obtain ⟨N, h⟩ := h a hb.1
  exact ⟨N, (f25m N a).trans (h N (Nat.le_refl N))⟩
theorem e25ok : EntryOk Try.prog 25 e25 := f25ok laws_big.ok
end Go.Fw
namespace Go.Fw
variable {ρ : Type}
open Go.Proofs
def f65k : VarK := ⟨113, [(5, .int .u8)], .pair (.int .i64) (.int .i64)⟩
def f65ps : List PT := [⟨.sl 5 (.int .u8), false, false⟩]
def e65 : EntryN := ⟨f65k, f65ps, none, fun X => (spec_l1New.g X.1)⟩
def f65G : Gm := emptyG
theorem f65GOk : GOk Try.prog f65G := GOk.nil
def f65lE : Clean := ⟨[], [], [], [], []⟩
def f65s0 (u0 : Value) (a : List Int) : St := initStN 5 (.int .u8) (f65ps.drop 1) u0 (a, ())
def f65s1 (u0 : Value) (a : List Int) : St := stOf [(0, .c (.bor u0 5 (.int .u8) a))] [] []
def f65l1 : Clean := ⟨[0], [], [], [], []⟩
def f65s2 (u0 : Value) (a : List Int) (b : Int) : St := stOf [(0, .c (.bor u0 5 (.int .u8) a)), (3, xi b)] [] []
def f65l2 : Clean := ⟨[0, 3], [], [], [], []⟩
def f65s3 (u0 : Value) (a : List Int) (b d : Int) : St := stOf [(0, .c (.bor u0 5 (.int .u8) a)), (3, xi b), (4, xi d)] [] []
def f65l3 : Clean := ⟨[0, 3, 4], [], [], [], []⟩
def f65s4 (u0 : Value) (a : List Int) (b c : Int) : St := stOf [(2, xb 31)] [(31, (113, [.bor u0 5 (.int .u8) a, yi b, yi c]))] []
def f65l4 : Clean := ⟨[2], [31], [], [], []⟩
def f65B : Nat → Option Clean := lookL [(0, f65l2), (1000000, f65l4)]
abbrev f65i {ρ : Type} (N : Nat) (c : Code) (p : Plan) (σ : St) (K : KT ρ) : Option ρ := iCode f65G tab f65B N c p σ K
def f65c (n : Nat) : Code := codeN 99 (bodyOf Try.f65) n
theorem f65t1 N u0 a (K : KT ρ) : f65i N (f65c 2) .n (f65s0 u0 a) (joinK (some f65l1) K) =
 spec_l1New.Z1 N a (fun a => K .nrm (f65s1 u0 a)) := by kernel_rfl
theorem f65t3 N u0 a (K : KT ρ) : f65i N (f65c 5) .n (f65s1 u0 a) (joinK (some f65l2) K) =
 spec_l1New.Z3 N a (fun a b => K .nrm (f65s2 u0 a b)) := by kernel_rfl
theorem f65t6 N u0 a b (K : KT ρ) : f65i N (f65c 19) .n (f65s2 u0 a b) (joinK (some f65l3) K) =
 spec_l1New.Z6 N a b (fun a b c => K .nrm (f65s3 u0 a b c)) := by kernel_rfl
theorem f65t9 N u0 a b c (K : KT ρ) : f65i N (f65c 75) .n (f65s3 u0 a b c) (joinK (some f65l3) K) =
 spec_l1New.Z9 N a b c (fun a b c => K .nrm (f65s3 u0 a b c)) (fun a b => K (.exit 0) (f65s2 u0 a b)) := by kernel_rfl
def f65p8 : Plan := .mk none (some f65l3) .n .n
abbrev f65w8 {ρ : Type} (N M : Nat) (σ : St) (K : KT ρ) : Option ρ := loopC (fun σ K => f65i N (f65c 75) .n σ K) f65l3 M σ K
theorem f65t8L {ρ : Type} (N : Nat) (u0 : Value) (K : KT ρ) : ∀ (M : Nat) (a : List Int) (b c : Int), f65w8 N M (f65s3 u0 a b c) K =
 spec_l1New.Z8L N (fun a b => K (.exit 0) (f65s2 u0 a b)) M a b c
 | 0, _, _, _ => rfl
 | M + 1, a, b, c => viaRoundS (fun k => spec_l1New.Z9 N a b c k (fun a b => K (.exit 0) (f65s2 u0 a b))) (f65t9 N u0 (K := seqK (fun σ => f65w8 N M σ K) K) ..) (fx3 fun a b c => f65t8L N u0 K M a b c) (by kernel_rfl)
theorem f65t8 N u0 a b c (K : KT ρ) : f65i N (f65c 43) f65p8 (f65s3 u0 a b c) (joinK (some f65l2) K) =
  spec_l1New.Z8 N a b c (fun a b => K (.exit 0) (f65s2 u0 a b)) :=
 viaLoopS (by kernel_rfl) (f65t8L N u0 (joinK (some f65l2) K) N a b c) (by kernel_rfl)
def f65p7 : Plan := .mk (some f65l2) none f65p8 .n
theorem f65t7 N u0 a b c (K : KT ρ) : f65i N (f65c 27) f65p7 (f65s3 u0 a b c) (joinK (some f65l2) K) =
  spec_l1New.Z7 N a b c (fun a b => K .nrm (f65s2 u0 a b)) :=
 viaBlockS (by kernel_rfl) (f65t8 N u0 (K := blockK 0 (joinK (some f65l2) K)) ..) (by kernel_rfl)
def f65p5 : Plan := .mk (some f65l3) none .n f65p7
theorem f65t5 N u0 a b (K : KT ρ) : f65i N (f65c 11) f65p5 (f65s2 u0 a b) (joinK (some f65l2) K) =
  spec_l1New.Z5 N a b (fun a b => K .nrm (f65s2 u0 a b)) :=
 viaSeqS (fun k => spec_l1New.Z6 N a b k) (by kernel_rfl) (f65t6 N u0 (K := seqK (fun σ => f65i N (f65c 27) f65p7 σ (joinK (some f65l2) K)) (joinK (some f65l2) K)) ..) (fx3 fun a b c => f65t7 N u0 a b c K) (by kernel_rfl)
theorem f65t10 N u0 a b (K : KT ρ) : f65i N (f65c 15) .n (f65s2 u0 a b) (joinK (some f65lE) K) =
 spec_l1New.Z10 N a b (fun c d e => K .ret (f65s4 u0 c d e)) := by kernel_rfl
def f65p4 : Plan := .mk (some f65l2) none f65p5 .n
theorem f65t4 N u0 a b (K : KT ρ) : f65i N (f65c 7) f65p4 (f65s2 u0 a b) (joinK (some f65lE) K) =
  spec_l1New.Z4 N a b (fun c d e => K .ret (f65s4 u0 c d e)) :=
 viaSeqS (fun k => spec_l1New.Z5 N a b k) (by kernel_rfl) (f65t5 N u0 (K := seqK (fun σ => f65i N (f65c 15) .n σ (joinK (some f65lE) K)) (joinK (some f65lE) K)) ..) (fx2 fun a b => f65t10 N u0 a b K) (by kernel_rfl)
def f65p2 : Plan := .mk (some f65l2) none .n f65p4
theorem f65t2 N u0 a (K : KT ρ) : f65i N (f65c 3) f65p2 (f65s1 u0 a) (joinK (some f65lE) K) =
  spec_l1New.Z2 N a (fun b c d => K .ret (f65s4 u0 b c d)) :=
 viaSeqS (fun k => spec_l1New.Z3 N a k) (by kernel_rfl) (f65t3 N u0 (K := seqK (fun σ => f65i N (f65c 7) f65p4 σ (joinK (some f65lE) K)) (joinK (some f65lE) K)) ..) (fx2 fun a e => f65t4 N u0 a e K) (by kernel_rfl)
def f65p0 : Plan := .mk (some f65l1) none .n f65p2
theorem f65t0 N u0 a (K : KT ρ) : f65i N (f65c 1) f65p0 (f65s0 u0 a) (joinK (some f65lE) K) =
  spec_l1New.Z0 N a (fun b c d => K .ret (f65s4 u0 b c d)) :=
 viaSeqS (fun k => spec_l1New.Z1 N a k) (by kernel_rfl) (f65t1 N u0 (K := seqK (fun σ => f65i N (f65c 3) f65p2 σ (joinK (some f65lE) K)) (joinK (some f65lE) K)) ..) (funext fun a => f65t2 N u0 a K) (by kernel_rfl)
theorem f65m (N : Nat) (u0 : Value) (a : List Int) : f65i N (f65c 1) f65p0 (f65s0 u0 a) (joinK (some f65lE) (finKN tab f65k Try.f65.results.toList)) = spec_l1New.Z0 N a (fun d b c => some ([u0], (b, c))) :=
 (f65t0 N u0 a (finKN tab f65k Try.f65.results.toList)).trans (by kernel_rfl)
theorem f65ok (h : spec_l1New.Spec) : EntryNOk Try.prog 65 e65 :=
 entryN_of_code (ps := f65ps.drop 1) (t := f65k.t) (c := (f65c 1)) (pl := f65p0) (je := (some f65lE)) (B := f65B) Try.func65 (by kernel_rfl) (by kernel_rfl) (by kernel_rfl) tabOk f65GOk (by kernel_rfl) (by kernel_rfl) (by kernel_rfl) (by kernel_rfl) fun u0 X hb2 hp => by
  obtain ⟨a, _⟩ := X
  obtain ⟨N, h⟩ := h [u0] a hb2.1
  exact ⟨N, (f65m N u0 a).trans (h N (Nat.le_refl N))⟩
theorem e65ok : EntryNOk Try.prog 65 e65 := f65ok spec_l1New.ok
end Go.Fw
namespace Go.Fw
variable {ρ : Type}
open Go.Proofs
def f107k : VarK := ⟨113, [(5, .int .u8)], .pair (.int .i64) (.int .i64)⟩
def f107ps : List PT := []
def f107rs : List PT := [⟨.int .i64, false, false⟩]
def e107 : EntryV := ⟨f107k, f107ps, true, f107rs, (some fun X => spec_l1Byte.P X.1.1.1 X.1.2), fun X => ((spec_l1Byte.g X.1.1.1 X.1.2).1, ((), ((spec_l1Byte.g X.1.1.1 X.1.2).2, ())))⟩
def f107G : Gm := emptyG
theorem f107GOk : GOk Try.prog f107G := GOk.nil
def f107lE : Clean := ⟨[], [], [], [], []⟩
def f107s0 (u0 : Value) (b0 : List Int) (r0 : Int × Int) : St := initStV f107k f107ps [u0] (((b0, ()), r0), ())
def f107s1 (u0 : Value) (a : Int) (b : List Int) (c d : Int) : St := stOf [(2, xi a), (100000, xb 100000)] [(100000, (113, [.bor u0 5 (.int .u8) b, yi c, yi d]))] []
def f107l1 : Clean := ⟨[2, 100000], [100000], [], [], []⟩
def f107B : Nat → Option Clean := lookL [(1000000, f107l1)]
abbrev f107i {ρ : Type} (N : Nat) (c : Code) (p : Plan) (σ : St) (K : KT ρ) : Option ρ := iCode f107G tab f107B N c p σ K
def f107c (n : Nat) : Code := codeN 99 (bodyOf Try.f107) n
theorem f107t0 N u0 b0 r0 (K : KT ρ) : f107i N (f107c 1) .n (f107s0 u0 b0 r0) (joinK (some f107lE) K) =
 spec_l1Byte.Z0 N b0 r0 (fun a b c d => K .ret (f107s1 u0 a b c d)) := by kernel_rfl
theorem f107m (N : Nat) (u0 : Value) (b0 : List Int) (r0 : Int × Int) : f107i N (f107c 1) .n (f107s0 u0 b0 r0) (joinK (some f107lE) (finKV tab f107k f107ps true f107rs Try.f107.results.toList)) = spec_l1Byte.Z0 N b0 r0 (fun a d b c => some ([u0], ((b, c), ((), (a, ()))))) :=
 (f107t0 N u0 b0 r0 (finKV tab f107k f107ps true f107rs Try.f107.results.toList)).trans (by kernel_rfl)
theorem f107ok (h : spec_l1Byte.Spec) : EntryVOk Try.prog 107 e107 :=
 entryV_of_code (k := f107k) (ps := f107ps) (rs := f107rs) (back := true) (c := (f107c 1)) (pl := .n) (je := (some f107lE)) (B := f107B) Try.func107 (by kernel_rfl) (by kernel_rfl) (by kernel_rfl) tabOk f107GOk (by kernel_rfl) (by kernel_rfl) (by kernel_rfl) fun lit X hl hb1 hb2 hp => by
  obtain ⟨⟨⟨b0, _⟩, r0⟩, _⟩ := X
  match lit, hl with
  | [u0], _ =>
   obtain ⟨N, h⟩ := h [u0] b0 r0 hb1.1 hp
   exact ⟨N, (f107m N u0 b0 r0).trans (h N (Nat.le_refl N))⟩
theorem e107ok : EntryVOk Try.prog 107 e107 := f107ok spec_l1Byte.ok
end Go.Fw
namespace Go.Fw
variable {ρ : Type}
open Go.Proofs
def f69k : VarK := ⟨113, [(5, .int .u8)], .pair (.int .i64) (.int .i64)⟩
def f69ps : List PT := [⟨.int .i64, false, false⟩]
def f69rs : List PT := [⟨.int .i64, false, false⟩]
def e69 : EntryV := ⟨f69k, f69ps, true, f69rs, (some fun X => spec_l1Below.P X.1.1.1 X.1.2 X.2.1), fun X => ((spec_l1Below.g X.1.1.1 X.1.2 X.2.1).1, ((), ((spec_l1Below.g X.1.1.1 X.1.2 X.2.1).2, ())))⟩
def f69G : Gm := addV emptyG 107 e107
theorem f69GOk : GOk Try.prog f69G := (GOk.nil).addV e107ok (by kernel_rfl)
def f69lE : Clean := ⟨[], [], [], [], []⟩
def f69s0 (u0 : Value) (b0 : List Int) (r0 : Int × Int) (a : Int) : St := initStV f69k f69ps [u0] (((b0, ()), r0), (a, ()))
def f69s1 (u0 : Value) (a : Int) (b : List Int) (c d : Int) : St := stOf [(4, xi a), (100000, xb 100000)] [(100000, (113, [.bor u0 5 (.int .u8) b, yi c, yi d]))] []
def f69l1 : Clean := ⟨[4, 100000], [100000], [], [], []⟩
def f69B : Nat → Option Clean := lookL [(1000000, f69l1)]
abbrev f69i {ρ : Type} (N : Nat) (c : Code) (p : Plan) (σ : St) (K : KT ρ) : Option ρ := iCode f69G tab f69B N c p σ K
def f69c (n : Nat) : Code := codeN 99 (bodyOf Try.f69) n
theorem f69t0 N u0 b0 r0 a (K : KT ρ) : f69i N (f69c 1) .n (f69s0 u0 b0 r0 a) (joinK (some f69lE) K) =
 spec_l1Below.Z0 N b0 r0 a (fun b c d e => K .ret (f69s1 u0 b c d e)) := by kernel_rfl
theorem f69m (N : Nat) (u0 : Value) (b0 : List Int) (r0 : Int × Int) (a : Int) : f69i N (f69c 1) .n (f69s0 u0 b0 r0 a) (joinK (some f69lE) (finKV tab f69k f69ps true f69rs Try.f69.results.toList)) = spec_l1Below.Z0 N b0 r0 a (fun b e c d => some ([u0], ((c, d), ((), (b, ()))))) :=
 (f69t0 N u0 b0 r0 a (finKV tab f69k f69ps true f69rs Try.f69.results.toList)).trans (by kernel_rfl)
theorem f69ok (h : spec_l1Below.Spec) : EntryVOk Try.prog 69 e69 :=
 entryV_of_code (k := f69k) (ps := f69ps) (rs := f69rs) (back := true) (c := (f69c 1)) (pl := .n) (je := (some f69lE)) (B := f69B) Try.func69 (by kernel_rfl) (by kernel_rfl) (by kernel_rfl) tabOk f69GOk (by kernel_rfl) (by kernel_rfl) (by kernel_rfl) fun lit X hl hb1 hb2 hp => by
  obtain ⟨⟨⟨b0, _⟩, r0⟩, a, _⟩ := X
  match lit, hl with
  | [u0], _ =>
   obtain ⟨N, h⟩ := h [u0] b0 r0 a hb1.1 hp
   exact ⟨N, (f69m N u0 b0 r0 a).trans (h N (Nat.le_refl N))⟩
theorem e69ok : EntryVOk Try.prog 69 e69 := f69ok spec_l1Below.ok
end Go.Fw
namespace Go.Fw
variable {ρ : Type}
open Go.Proofs
def f104k : VarK := ⟨113, [(5, .int .u8)], .pair (.int .i64) (.int .i64)⟩
def f104ps : List PT := [⟨.int .i64, false, false⟩]
def f104rs : List PT := [⟨.bool, false, false⟩]
def e104 : EntryV := ⟨f104k, f104ps, true, f104rs, (some fun X => spec_l1Once.P X.1.1.1 X.1.2 X.2.1), fun X => ((spec_l1Once.g X.1.1.1 X.1.2 X.2.1).1, ((), ((spec_l1Once.g X.1.1.1 X.1.2 X.2.1).2, ())))⟩
def f104G : Gm := addV emptyG 69 e69
theorem f104GOk : GOk Try.prog f104G := (GOk.nil).addV e69ok (by kernel_rfl)
def f104lE : Clean := ⟨[], [], [], [], []⟩
def f104s0 (u0 : Value) (b0 : List Int) (r0 : Int × Int) (a : Int) : St := initStV f104k f104ps [u0] (((b0, ()), r0), (a, ()))
def f104s1 (u0 : Value) (a : Bool) (b : List Int) (c d : Int) : St := stOf [(4, xB a), (100000, xb 100000)] [(100000, (113, [.bor u0 5 (.int .u8) b, yi c, yi d]))] []
def f104l1 : Clean := ⟨[4, 100000], [100000], [], [], []⟩
def f104B : Nat → Option Clean := lookL [(1000000, f104l1)]
abbrev f104i {ρ : Type} (N : Nat) (c : Code) (p : Plan) (σ : St) (K : KT ρ) : Option ρ := iCode f104G tab f104B N c p σ K
def f104c (n : Nat) : Code := codeN 99 (bodyOf Try.f104) n
theorem f104t0 N u0 b0 r0 a (K : KT ρ) : f104i N (f104c 1) .n (f104s0 u0 b0 r0 a) (joinK (some f104lE) K) =
 spec_l1Once.Z0 N b0 r0 a (fun b c d e => K .ret (f104s1 u0 b c d e)) := by kernel_rfl
theorem f104m (N : Nat) (u0 : Value) (b0 : List Int) (r0 : Int × Int) (a : Int) : f104i N (f104c 1) .n (f104s0 u0 b0 r0 a) (joinK (some f104lE) (finKV tab f104k f104ps true f104rs Try.f104.results.toList)) = spec_l1Once.Z0 N b0 r0 a (fun b e c d => some ([u0], ((c, d), ((), (b, ()))))) :=
 (f104t0 N u0 b0 r0 a (finKV tab f104k f104ps true f104rs Try.f104.results.toList)).trans (by kernel_rfl)
theorem f104ok (h : spec_l1Once.Spec) : EntryVOk Try.prog 104 e104 :=
 entryV_of_code (k := f104k) (ps := f104ps) (rs := f104rs) (back := true) (c := (f104c 1)) (pl := .n) (je := (some f104lE)) (B := f104B) Try.func104 (by kernel_rfl) (by kernel_rfl) (by kernel_rfl) tabOk f104GOk (by kernel_rfl) (by kernel_rfl) (by kernel_rfl) fun lit X hl hb1 hb2 hp => by
  obtain ⟨⟨⟨b0, _⟩, r0⟩, a, _⟩ := X
  match lit, hl with
  | [u0], _ =>
   obtain ⟨N, h⟩ := h [u0] b0 r0 a hb1.1 hp
   exact ⟨N, (f104m N u0 b0 r0 a).trans (h N (Nat.le_refl N))⟩
theorem e104ok : EntryVOk Try.prog 104 e104 := f104ok spec_l1Once.ok
end Go.Fw
namespace Go.Fw
variable {ρ : Type}
open Go.Proofs
def f124sig : Sig := ⟨[⟨.int .i64, false, false⟩], [⟨.pair (.int .i64) (.pair (.int .i64) (.sl 3 (.int .i64))), true, false⟩]⟩
def e124 : Entry := ⟨f124sig, (some fun X => spec_dZero.P X.1), fun X => ((), ((spec_dZero.g X.1), ()))⟩
def f124G : Gm := emptyG
theorem f124GOk : GOk Try.prog f124G := GOk.nil
def f124lE : Clean := ⟨[], [], [], [], []⟩
def f124s0 (a : Int) : St := initSt f124sig.ps (a, ())
def f124s1 (a : LI) (b c : Int) : St := stOf [(2, xb 2)] [(2, (30, [yi b, yi c, .own 20000130]))] [(20000130, (⟨3, .int .i64, a, true, false⟩ : Row))]
def f124l1 : Clean := ⟨[2], [2], [], [], [(⟨true, 2, 2⟩, 20000130)]⟩
def f124B : Nat → Option Clean := lookL [(1000000, f124l1)]
abbrev f124i {ρ : Type} (N : Nat) (c : Code) (p : Plan) (σ : St) (K : KT ρ) : Option ρ := iCode f124G tab f124B N c p σ K
def f124c (n : Nat) : Code := codeN 99 (bodyOf Try.f124) n
theorem f124t0 N a (K : KT ρ) : f124i N (f124c 1) .n (f124s0 a) (joinK (some f124lE) K) =
 spec_dZero.Z0 N a (fun b c d => K .ret (f124s1 b c d)) := by kernel_rfl
theorem f124m (N : Nat) (a : Int) : f124i N (f124c 1) .n (f124s0 a) (joinK (some f124lE) (finK tab f124sig Try.f124.results.toList)) = spec_dZero.Z0 N a (fun b c d => some ((), ((c, (d, b)), ()))) :=
 (f124t0 N a (finK tab f124sig Try.f124.results.toList)).trans (by kernel_rfl)
theorem f124ok (h : spec_dZero.Spec) : EntryOk Try.prog 124 e124 :=
 entry_of_code (sig := f124sig) (c := (f124c 1)) (pl := .n) (je := (some f124lE)) (B := f124B) Try.func124 (by kernel_rfl) (by kernel_rfl) (by kernel_rfl) tabOk f124GOk (by kernel_rfl) (by kernel_rfl) (by kernel_rfl) (by kernel_rfl) fun X hb hp => by
  obtain ⟨a, _⟩ := X
  obtain ⟨N, h⟩ := h a hp
  exact ⟨N, (f124m N a).trans (h N (Nat.le_refl N))⟩
theorem e124ok : EntryOk Try.prog 124 e124 := f124ok spec_dZero.ok
end Go.Fw
namespace Go.Fw
variable {ρ : Type}
open Go.Proofs
def f125k : VarK := ⟨113, [(5, .int .u8)], .pair (.int .i64) (.int .i64)⟩
def f125ps : List PT := [⟨.pair (.int .i64) (.pair (.int .i64) (.sl 3 (.int .i64))), true, true⟩, ⟨.int .i64, false, false⟩, ⟨.int .i64, false, false⟩, ⟨.int .i64, false, false⟩, ⟨.int .i64, false, false⟩]
def f125rs : List PT := []
def e125 : EntryV := ⟨f125k, f125ps, true, f125rs, (some fun X => spec_dJoin.P X.1.1.1 X.1.2 X.2.1 X.2.2.1 X.2.2.2.1 X.2.2.2.2.1 X.2.2.2.2.2.1), fun X => ((spec_dJoin.g X.1.1.1 X.1.2 X.2.1 X.2.2.1 X.2.2.2.1 X.2.2.2.2.1 X.2.2.2.2.2.1).1, ((spec_dJoin.g X.1.1.1 X.1.2 X.2.1 X.2.2.1 X.2.2.2.1 X.2.2.2.2.1 X.2.2.2.2.2.1).2, ()))⟩
def f125G : Gm := addV emptyG 104 e104
theorem f125GOk : GOk Try.prog f125G := (GOk.nil).addV e104ok (by kernel_rfl)
def f125s0 (u0 : Value) (b0 : List Int) (r0 : Int × Int) (a : MT) (b c d e : Int) : St := initStV f125k f125ps [u0] (((b0, ()), r0), (a, (b, (c, (d, (e, ()))))))
def f125s1 (u0 : Value) (a : LI) (b c : Int) (d : List Int) (e f : Int) : St := stOf [(100000, xb 100000), (100001, .agg [yi b, yi c, .own 7400066])] [(100000, (113, [.bor u0 5 (.int .u8) d, yi e, yi f]))] [(7400066, (⟨3, .int .i64, a, true, false⟩ : Row))]
def f125l1 : Clean := ⟨[100000, 100001], [100000], [], [], [(⟨false, 100001, 2⟩, 7400066)]⟩
def f125B : Nat → Option Clean := lookL []
abbrev f125i {ρ : Type} (N : Nat) (c : Code) (p : Plan) (σ : St) (K : KT ρ) : Option ρ := iCode f125G tab f125B N c p σ K
def f125c (n : Nat) : Code := codeN 99 (bodyOf Try.f125) n
theorem f125t0 N u0 b0 r0 a b c d e (K : KT ρ) : f125i N (f125c 1) .n (f125s0 u0 b0 r0 a b c d e) (joinK (some f125l1) K) =
 spec_dJoin.Z0 N b0 r0 a b c d e (fun f g h i j l => K .nrm (f125s1 u0 f g h i j l)) := by kernel_rfl
theorem f125m (N : Nat) (u0 : Value) (b0 : List Int) (r0 : Int × Int) (a : MT) (b c d e : Int) : f125i N (f125c 1) .n (f125s0 u0 b0 r0 a b c d e) (joinK (some f125l1) (finKV tab f125k f125ps true f125rs Try.f125.results.toList)) = spec_dJoin.Z0 N b0 r0 a b c d e (fun f g h l i j => some ([u0], ((i, j), ((g, (h, f)), ())))) :=
 (f125t0 N u0 b0 r0 a b c d e (finKV tab f125k f125ps true f125rs Try.f125.results.toList)).trans (by kernel_rfl)
theorem f125ok (h : spec_dJoin.Spec) : EntryVOk Try.prog 125 e125 :=
 entryV_of_code (k := f125k) (ps := f125ps) (rs := f125rs) (back := true) (c := (f125c 1)) (pl := .n) (je := (some f125l1)) (B := f125B) Try.func125 (by kernel_rfl) (by kernel_rfl) (by kernel_rfl) tabOk f125GOk (by kernel_rfl) (by kernel_rfl) (by kernel_rfl) fun lit X hl hb1 hb2 hp => by
  obtain ⟨⟨⟨b0, _⟩, r0⟩, a, b, d, e, f, _⟩ := X
  match lit, hl with
  | [u0], _ =>
   obtain ⟨N, h⟩ := h [u0] b0 r0 a b d e f hb1.1 hb2.1 hp
   exact ⟨N, (f125m N u0 b0 r0 a b d e f).trans (h N (Nat.le_refl N))⟩
theorem e125ok : EntryVOk Try.prog 125 e125 := f125ok spec_dJoin.ok
end Go.Fw
namespace Go.Fw
variable {ρ : Type}
open Go.Proofs
def f105k : VarK := ⟨113, [(5, .int .u8)], .pair (.int .i64) (.int .i64)⟩
def f105ps : List PT := []
def f105rs : List PT := [⟨.pair (.int .i64) (.pair (.int .i64) (.sl 3 (.int .i64))), true, false⟩]
def e105 : EntryV := ⟨f105k, f105ps, true, f105rs, (some fun X => spec_dWild.P X.1.1.1 X.1.2), fun X => ((spec_dWild.g X.1.1.1 X.1.2).1, ((), ((spec_dWild.g X.1.1.1 X.1.2).2, ())))⟩
def f105G : Gm := addV (addG (addV emptyG 69 e69) 124 e124) 125 e125
theorem f105GOk : GOk Try.prog f105G := (((GOk.nil).addV e69ok (by kernel_rfl)).add e124ok (by kernel_rfl)).addV e125ok (by kernel_rfl)
def f105lE : Clean := ⟨[], [], [], [], []⟩
def f105s0 (u0 : Value) (b0 : List Int) (r0 : Int × Int) : St := initStV f105k f105ps [u0] (((b0, ()), r0), ())
def f105s1 (u0 : Value) (a : List Int) (b c d e : Int) : St := stOf [(0, xb 100000), (2, xb 2), (100000, xb 100000)] [(100000, (113, [.bor u0 5 (.int .u8) a, yi b, yi c])), (2, (30, [yi d, yi e, .nil]))] []
def f105l1 : Clean := ⟨[0, 2, 100000], [100000, 2], [], [], []⟩
def f105s2 (u0 : Value) (a : LI) (b : List Int) (c d e f g h : Int) : St := stOf [(0, xb 100000), (2, xb 2), (5, xb 5), (100000, xb 100000)] [(100000, (113, [.bor u0 5 (.int .u8) b, yi c, yi d])), (2, (30, [yi e, yi f, .nil])), (5, (30, [yi g, yi h, .own 20000322]))] [(20000322, (⟨3, .int .i64, a, true, false⟩ : Row))]
def f105l2 : Clean := ⟨[0, 2, 5, 100000], [100000, 2, 5], [], [], [(⟨true, 5, 2⟩, 20000322)]⟩
def f105s3 (u0 : Value) (a : LI) (b : Int) (c : List Int) (d e f g h i : Int) : St := stOf [(0, xb 100000), (2, xb 2), (5, xb 5), (6, xi b), (100000, xb 100000)] [(100000, (113, [.bor u0 5 (.int .u8) c, yi d, yi e])), (2, (30, [yi f, yi g, .nil])), (5, (30, [yi h, yi i, .own 20000322]))] [(20000322, (⟨3, .int .i64, a, true, false⟩ : Row))]
def f105l3 : Clean := ⟨[0, 2, 5, 6, 100000], [100000, 2, 5], [], [], [(⟨true, 5, 2⟩, 20000322)]⟩
def f105s4 (u0 : Value) (a : LI) (b c : Int) (d : List Int) (e f g h i j : Int) : St := stOf [(0, xb 100000), (2, xb 2), (5, xb 5), (6, xi b), (7, xi c), (100000, xb 100000)] [(100000, (113, [.bor u0 5 (.int .u8) d, yi e, yi f])), (2, (30, [yi g, yi h, .nil])), (5, (30, [yi i, yi j, .own 20000322]))] [(20000322, (⟨3, .int .i64, a, true, false⟩ : Row))]
def f105l4 : Clean := ⟨[0, 2, 5, 6, 7, 100000], [100000, 2, 5], [], [], [(⟨true, 5, 2⟩, 20000322)]⟩
def f105s5 (u0 : Value) (a : LI) (b c d e : Int) (f : List Int) (g h : Int) : St := stOf [(2, xb 2), (5, xb 5), (100000, xb 100000)] [(2, (30, [yi b, yi c, .nil])), (5, (30, [yi d, yi e, .own 20000322])), (100000, (113, [.bor u0 5 (.int .u8) f, yi g, yi h]))] [(20000322, (⟨3, .int .i64, a, true, false⟩ : Row))]
def f105l5 : Clean := ⟨[2, 5, 100000], [2, 5, 100000], [], [], [(⟨true, 5, 2⟩, 20000322)]⟩
def f105s6 (u0 : Value) (a : LI) (b c : Int) (d : List Int) (e f : Int) : St := stOf [(2, xb 2), (100000, xb 100000)] [(2, (30, [yi b, yi c, .own 20000130])), (100000, (113, [.bor u0 5 (.int .u8) d, yi e, yi f]))] [(20000130, (⟨3, .int .i64, a, true, false⟩ : Row))]
def f105l6 : Clean := ⟨[2, 100000], [2, 100000], [], [], [(⟨true, 2, 2⟩, 20000130)]⟩
def f105B : Nat → Option Clean := lookL [(3, f105l3), (2, f105l3), (1, f105l5), (1000000, f105l6)]
abbrev f105i {ρ : Type} (N : Nat) (c : Code) (p : Plan) (σ : St) (K : KT ρ) : Option ρ := iCode f105G tab f105B N c p σ K
def f105c (n : Nat) : Code := codeN 99 (bodyOf Try.f105) n
theorem f105t1 N u0 b0 r0 (K : KT ρ) : f105i N (f105c 2) .n (f105s0 u0 b0 r0) (joinK (some f105l1) K) =
 spec_dWild.Z1 N b0 r0 (fun a b c d e => K .nrm (f105s1 u0 a b c d e)) := by kernel_rfl
theorem f105t3 N u0 a b c d e (K : KT ρ) : f105i N (f105c 5) .n (f105s1 u0 a b c d e) (joinK (some f105l1) K) =
 spec_dWild.Z3 N a b c d e (fun a b c d e => K .nrm (f105s1 u0 a b c d e)) (fun f d e a b c => K .ret (f105s6 u0 f d e a b c)) := by kernel_rfl
theorem f105t5 N u0 a b c d e (K : KT ρ) : f105i N (f105c 11) .n (f105s1 u0 a b c d e) (joinK (some f105l2) K) =
 spec_dWild.Z5 N a b c d e (fun f a b c d e g h => K .nrm (f105s2 u0 f a b c d e g h)) := by kernel_rfl
theorem f105t8 N u0 a b c d e f g h (K : KT ρ) : f105i N (f105c 39) .n (f105s2 u0 a b c d e f g h) (joinK (some f105l3) K) =
 spec_dWild.Z8 N a b c d e f g h (fun a i b c d e f g h => K .nrm (f105s3 u0 a i b c d e f g h)) := by kernel_rfl
theorem f105t12 N u0 a i b c d e f g h (K : KT ρ) : f105i N (f105c 279) .n (f105s3 u0 a i b c d e f g h) (joinK (some f105l3) K) =
 spec_dWild.Z12 N a i b c d e f g h (fun a i b c d e f g h => K .nrm (f105s3 u0 a i b c d e f g h)) (fun a e f g h b c d => K (.exit 1) (f105s5 u0 a e f g h b c d)) := by kernel_rfl
theorem f105t16 N u0 a b c d e f g h i (K : KT ρ) : f105i N (f105c 2199) .n (f105s3 u0 a b c d e f g h i) (joinK (some f105l4) K) =
 spec_dWild.Z16 N a b c d e f g h i (fun a b j c d e f g h i => K .nrm (f105s4 u0 a b j c d e f g h i)) := by kernel_rfl
theorem f105t19 N u0 a b j c d e f g h i (K : KT ρ) : f105i N (f105c 9367) .n (f105s4 u0 a b j c d e f g h i) (joinK (some f105l4) K) =
 spec_dWild.Z19 N a b j c d e f g h i (fun a b j c d e f g h i => K .nrm (f105s4 u0 a b j c d e f g h i)) (fun a b c d e f g h i => K (.exit 3) (f105s3 u0 a b c d e f g h i)) := by kernel_rfl
def f105p18 : Plan := .mk none (some f105l4) .n .n
abbrev f105w18 {ρ : Type} (N M : Nat) (σ : St) (K : KT ρ) : Option ρ := loopC (fun σ K => f105i N (f105c 9367) .n σ K) f105l4 M σ K
theorem f105t18L {ρ : Type} (N : Nat) (u0 : Value) (K : KT ρ) : ∀ (M : Nat) (a : LI) (b j : Int) (c : List Int) (d e f g h i : Int), f105w18 N M (f105s4 u0 a b j c d e f g h i) K =
 spec_dWild.Z18L N (fun a b c d e f g h i => K (.exit 3) (f105s3 u0 a b c d e f g h i)) M a b j c d e f g h i
 | 0, _, _, _, _, _, _, _, _, _, _ => rfl
 | M + 1, a, b, j, c, d, e, f, g, h, i => viaRoundS (fun k => spec_dWild.Z19 N a b j c d e f g h i k (fun a b c d e f g h i => K (.exit 3) (f105s3 u0 a b c d e f g h i))) (f105t19 N u0 (K := seqK (fun σ => f105w18 N M σ K) K) ..) (fx10 fun a b j c d e f g h i => f105t18L N u0 K M a b j c d e f g h i) (by kernel_rfl)
theorem f105t18 N u0 a b j c d e f g h i (K : KT ρ) : f105i N (f105c 5271) f105p18 (f105s4 u0 a b j c d e f g h i) (joinK (some f105l3) K) =
  spec_dWild.Z18 N a b j c d e f g h i (fun a b c d e f g h i => K (.exit 3) (f105s3 u0 a b c d e f g h i)) :=
 viaLoopS (by kernel_rfl) (f105t18L N u0 (joinK (some f105l3) K) N a b j c d e f g h i) (by kernel_rfl)
def f105p17 : Plan := .mk (some f105l3) none f105p18 .n
theorem f105t17 N u0 a b j c d e f g h i (K : KT ρ) : f105i N (f105c 3223) f105p17 (f105s4 u0 a b j c d e f g h i) (joinK (some f105l3) K) =
  spec_dWild.Z17 N a b j c d e f g h i (fun a b c d e f g h i => K .nrm (f105s3 u0 a b c d e f g h i)) :=
 viaBlockS (by kernel_rfl) (f105t18 N u0 (K := blockK 3 (joinK (some f105l3) K)) ..) (by kernel_rfl)
def f105p15 : Plan := .mk (some f105l4) none .n f105p17
theorem f105t15 N u0 a b c d e f g h i (K : KT ρ) : f105i N (f105c 1175) f105p15 (f105s3 u0 a b c d e f g h i) (joinK (some f105l3) K) =
  spec_dWild.Z15 N a b c d e f g h i (fun a b c d e f g h i => K .nrm (f105s3 u0 a b c d e f g h i)) :=
 viaSeqS (fun k => spec_dWild.Z16 N a b c d e f g h i k) (by kernel_rfl) (f105t16 N u0 (K := seqK (fun σ => f105i N (f105c 3223) f105p17 σ (joinK (some f105l3) K)) (joinK (some f105l3) K)) ..) (fx10 fun a b j c d e f g h i => f105t17 N u0 a b j c d e f g h i K) (by kernel_rfl)
def f105p14 : Plan := .mk (some f105l3) none f105p15 .n
theorem f105t14 N u0 a b c d e f g h i (K : KT ρ) : f105i N (f105c 663) f105p14 (f105s3 u0 a b c d e f g h i) (joinK (some f105l3) K) =
  spec_dWild.Z14 N a b c d e f g h i (fun a b c d e f g h i => K .nrm (f105s3 u0 a b c d e f g h i)) :=
 viaBlockS (by kernel_rfl) (f105t15 N u0 (K := blockK 2 (joinK (some f105l3) K)) ..) (by kernel_rfl)
theorem f105t20 N u0 a b c d e f g h i (K : KT ρ) : f105i N (f105c 919) .n (f105s3 u0 a b c d e f g h i) (joinK (some f105l3) K) =
 spec_dWild.Z20 N a b c d e f g h i (fun a b c d e f g h i => K .nrm (f105s3 u0 a b c d e f g h i)) := by kernel_rfl
def f105p13 : Plan := .mk (some f105l3) none f105p14 .n
theorem f105t13 N u0 a b c d e f g h i (K : KT ρ) : f105i N (f105c 407) f105p13 (f105s3 u0 a b c d e f g h i) (joinK (some f105l3) K) =
  spec_dWild.Z13 N a b c d e f g h i (fun a b c d e f g h i => K .nrm (f105s3 u0 a b c d e f g h i)) :=
 viaSeqS (fun k => spec_dWild.Z14 N a b c d e f g h i k) (by kernel_rfl) (f105t14 N u0 (K := seqK (fun σ => f105i N (f105c 919) .n σ (joinK (some f105l3) K)) (joinK (some f105l3) K)) ..) (fx9 fun a b c d e f g h i => f105t20 N u0 a b c d e f g h i K) (by kernel_rfl)
def f105p11 : Plan := .mk (some f105l3) none .n f105p13
theorem f105t11 N u0 a i b c d e f g h (K : KT ρ) : f105i N (f105c 151) f105p11 (f105s3 u0 a i b c d e f g h) (joinK (some f105l3) K) =
  spec_dWild.Z11 N a i b c d e f g h (fun a i b c d e f g h => K .nrm (f105s3 u0 a i b c d e f g h)) (fun a e f g h b c d => K (.exit 1) (f105s5 u0 a e f g h b c d)) :=
 viaSeqS (fun k => spec_dWild.Z12 N a i b c d e f g h k (fun a e f g h b c d => K (.exit 1) (f105s5 u0 a e f g h b c d))) (by kernel_rfl) (f105t12 N u0 (K := seqK (fun σ => f105i N (f105c 407) f105p13 σ (joinK (some f105l3) K)) (joinK (some f105l3) K)) ..) (fx9 fun a i b c d e f g h => f105t13 N u0 a i b c d e f g h K) (by kernel_rfl)
def f105p10 : Plan := .mk none (some f105l3) f105p11 .n
abbrev f105w10 {ρ : Type} (N M : Nat) (σ : St) (K : KT ρ) : Option ρ := loopC (fun σ K => f105i N (f105c 151) f105p11 σ K) f105l3 M σ K
theorem f105t10L {ρ : Type} (N : Nat) (u0 : Value) (K : KT ρ) : ∀ (M : Nat) (a : LI) (i : Int) (b : List Int) (c d e f g h : Int), f105w10 N M (f105s3 u0 a i b c d e f g h) K =
 spec_dWild.Z10L N (fun a e f g h b c d => K (.exit 1) (f105s5 u0 a e f g h b c d)) M a i b c d e f g h
 | 0, _, _, _, _, _, _, _, _, _ => rfl
 | M + 1, a, i, b, c, d, e, f, g, h => viaRoundS (fun k => spec_dWild.Z11 N a i b c d e f g h k (fun a e f g h b c d => K (.exit 1) (f105s5 u0 a e f g h b c d))) (f105t11 N u0 (K := seqK (fun σ => f105w10 N M σ K) K) ..) (fx9 fun a i b c d e f g h => f105t10L N u0 K M a i b c d e f g h) (by kernel_rfl)
theorem f105t10 N u0 a i b c d e f g h (K : KT ρ) : f105i N (f105c 87) f105p10 (f105s3 u0 a i b c d e f g h) (joinK (some f105l5) K) =
  spec_dWild.Z10 N a i b c d e f g h (fun a e f g h b c d => K (.exit 1) (f105s5 u0 a e f g h b c d)) :=
 viaLoopS (by kernel_rfl) (f105t10L N u0 (joinK (some f105l5) K) N a i b c d e f g h) (by kernel_rfl)
def f105p9 : Plan := .mk (some f105l5) none f105p10 .n
theorem f105t9 N u0 a i b c d e f g h (K : KT ρ) : f105i N (f105c 55) f105p9 (f105s3 u0 a i b c d e f g h) (joinK (some f105l5) K) =
  spec_dWild.Z9 N a i b c d e f g h (fun a e f g h b c d => K .nrm (f105s5 u0 a e f g h b c d)) :=
 viaBlockS (by kernel_rfl) (f105t10 N u0 (K := blockK 1 (joinK (some f105l5) K)) ..) (by kernel_rfl)
def f105p7 : Plan := .mk (some f105l3) none .n f105p9
theorem f105t7 N u0 a b c d e f g h (K : KT ρ) : f105i N (f105c 23) f105p7 (f105s2 u0 a b c d e f g h) (joinK (some f105l5) K) =
  spec_dWild.Z7 N a b c d e f g h (fun a e f g h b c d => K .nrm (f105s5 u0 a e f g h b c d)) :=
 viaSeqS (fun k => spec_dWild.Z8 N a b c d e f g h k) (by kernel_rfl) (f105t8 N u0 (K := seqK (fun σ => f105i N (f105c 55) f105p9 σ (joinK (some f105l5) K)) (joinK (some f105l5) K)) ..) (fx9 fun a i b c d e f g h => f105t9 N u0 a i b c d e f g h K) (by kernel_rfl)
theorem f105t21 N u0 f a b g h c d e (K : KT ρ) : f105i N (f105c 31) .n (f105s5 u0 f a b g h c d e) (joinK (some f105lE) K) =
 spec_dWild.Z21 N f a b g h c d e (fun i a b c d e => K .ret (f105s6 u0 i a b c d e)) := by kernel_rfl
def f105p6 : Plan := .mk (some f105l5) none f105p7 .n
theorem f105t6 N u0 f a b c d e g h (K : KT ρ) : f105i N (f105c 15) f105p6 (f105s2 u0 f a b c d e g h) (joinK (some f105lE) K) =
  spec_dWild.Z6 N f a b c d e g h (fun i d e a b c => K .ret (f105s6 u0 i d e a b c)) :=
 viaSeqS (fun k => spec_dWild.Z7 N f a b c d e g h k) (by kernel_rfl) (f105t7 N u0 (K := seqK (fun σ => f105i N (f105c 31) .n σ (joinK (some f105lE) K)) (joinK (some f105lE) K)) ..) (fx8 fun f d e g h a b c => f105t21 N u0 f d e g h a b c K) (by kernel_rfl)
def f105p4 : Plan := .mk (some f105l2) none .n f105p6
theorem f105t4 N u0 a b c d e (K : KT ρ) : f105i N (f105c 7) f105p4 (f105s1 u0 a b c d e) (joinK (some f105lE) K) =
  spec_dWild.Z4 N a b c d e (fun f d e a b c => K .ret (f105s6 u0 f d e a b c)) :=
 viaSeqS (fun k => spec_dWild.Z5 N a b c d e k) (by kernel_rfl) (f105t5 N u0 (K := seqK (fun σ => f105i N (f105c 15) f105p6 σ (joinK (some f105lE) K)) (joinK (some f105lE) K)) ..) (fx8 fun g a b c d e h i => f105t6 N u0 g a b c d e h i K) (by kernel_rfl)
def f105p2 : Plan := .mk (some f105l1) none .n f105p4
theorem f105t2 N u0 a b c d e (K : KT ρ) : f105i N (f105c 3) f105p2 (f105s1 u0 a b c d e) (joinK (some f105lE) K) =
  spec_dWild.Z2 N a b c d e (fun f d e a b c => K .ret (f105s6 u0 f d e a b c)) :=
 viaSeqS (fun k => spec_dWild.Z3 N a b c d e k (fun f d e a b c => K .ret (f105s6 u0 f d e a b c))) (by kernel_rfl) (f105t3 N u0 (K := seqK (fun σ => f105i N (f105c 7) f105p4 σ (joinK (some f105lE) K)) (joinK (some f105lE) K)) ..) (fx5 fun a b c d e => f105t4 N u0 a b c d e K) (by kernel_rfl)
def f105p0 : Plan := .mk (some f105l1) none .n f105p2
theorem f105t0 N u0 b0 r0 (K : KT ρ) : f105i N (f105c 1) f105p0 (f105s0 u0 b0 r0) (joinK (some f105lE) K) =
  spec_dWild.Z0 N b0 r0 (fun f a b c d e => K .ret (f105s6 u0 f a b c d e)) :=
 viaSeqS (fun k => spec_dWild.Z1 N b0 r0 k) (by kernel_rfl) (f105t1 N u0 (K := seqK (fun σ => f105i N (f105c 3) f105p2 σ (joinK (some f105lE) K)) (joinK (some f105lE) K)) ..) (fx5 fun c d e a b => f105t2 N u0 c d e a b K) (by kernel_rfl)
theorem f105m (N : Nat) (u0 : Value) (b0 : List Int) (r0 : Int × Int) : f105i N (f105c 1) f105p0 (f105s0 u0 b0 r0) (joinK (some f105lE) (finKV tab f105k f105ps true f105rs Try.f105.results.toList)) = spec_dWild.Z0 N b0 r0 (fun a b c f d e => some ([u0], ((d, e), ((), ((b, (c, a)), ()))))) :=
 (f105t0 N u0 b0 r0 (finKV tab f105k f105ps true f105rs Try.f105.results.toList)).trans (by kernel_rfl)
theorem f105ok (h : spec_dWild.Spec) : EntryVOk Try.prog 105 e105 :=
 entryV_of_code (k := f105k) (ps := f105ps) (rs := f105rs) (back := true) (c := (f105c 1)) (pl := f105p0) (je := (some f105lE)) (B := f105B) Try.func105 (by kernel_rfl) (by kernel_rfl) (by kernel_rfl) tabOk f105GOk (by kernel_rfl) (by kernel_rfl) (by kernel_rfl) fun lit X hl hb1 hb2 hp => by
  obtain ⟨⟨⟨b0, _⟩, r0⟩, _⟩ := X
  match lit, hl with
  | [u0], _ =>
   obtain ⟨N, h⟩ := h [u0] b0 r0 hb1.1 hp
   exact ⟨N, (f105m N u0 b0 r0).trans (h N (Nat.le_refl N))⟩
theorem e105ok : EntryVOk Try.prog 105 e105 := f105ok spec_dWild.ok
end Go.Fw
namespace Go.Fw
variable {ρ : Type}
open Go.Proofs
def f137sig : Sig := ⟨[⟨.int .i64, false, false⟩], [⟨.str, false, false⟩]⟩
def e137 : Entry := ⟨f137sig, (some fun X => spec_FormatInt.P X.1), fun X => ((), ((spec_FormatInt.g X.1), ()))⟩
def f137G : Gm := emptyG
theorem f137GOk : GOk Try.prog f137G := GOk.nil
def f137lE : Clean := ⟨[], [], [], [], []⟩
def f137s0 (a : Int) : St := initSt f137sig.ps (a, ())
def f137s1 (a : Int) : St := stOf [(0, xi a)] [] []
def f137l1 : Clean := ⟨[0], [], [], [], []⟩
def f137s2 (a : List Int) (b : Int) : St := stOf [(0, xi b), (3, xo 1000192)] [] [(1000192, (⟨5, .int .u8, a, true, false⟩ : Row))]
def f137l2 : Clean := ⟨[0, 3], [], [], [], [(⟨false, 3, 0⟩, 1000192)]⟩
def f137s3 (a : List Int) (b c : Int) : St := stOf [(0, xi b), (3, xo 1000192), (4, xi c)] [] [(1000192, (⟨5, .int .u8, a, true, false⟩ : Row))]
def f137l3 : Clean := ⟨[0, 3, 4], [], [], [], [(⟨false, 3, 0⟩, 1000192)]⟩
def f137s4 (a b : List Int) (c : Int) : St := stOf [(0, xi c), (3, xo 1000192), (6, xo 1000384)] [] [(1000192, (⟨5, .int .u8, a, true, false⟩ : Row)), (1000384, (⟨5, .int .u8, b, true, false⟩ : Row))]
def f137l4 : Clean := ⟨[0, 3, 6], [], [], [], [(⟨false, 3, 0⟩, 1000192), (⟨false, 6, 0⟩, 1000384)]⟩
def f137s5 (a b : List Int) : St := stOf [(3, xo 1000192), (6, xo 1000384)] [] [(1000192, (⟨5, .int .u8, a, true, false⟩ : Row)), (1000384, (⟨5, .int .u8, b, true, false⟩ : Row))]
def f137l5 : Clean := ⟨[3, 6], [], [], [], [(⟨false, 3, 0⟩, 1000192), (⟨false, 6, 0⟩, 1000384)]⟩
def f137s6 (a b : List Int) (c : Int) : St := stOf [(3, xo 1000192), (6, xo 1000384), (7, xi c)] [] [(1000192, (⟨5, .int .u8, a, true, false⟩ : Row)), (1000384, (⟨5, .int .u8, b, true, false⟩ : Row))]
def f137l6 : Clean := ⟨[3, 6, 7], [], [], [], [(⟨false, 3, 0⟩, 1000192), (⟨false, 6, 0⟩, 1000384)]⟩
def f137s7 (a : List Int) : St := stOf [(6, xo 1000384)] [] [(1000384, (⟨5, .int .u8, a, true, false⟩ : Row))]
def f137l7 : Clean := ⟨[6], [], [], [], [(⟨false, 6, 0⟩, 1000384)]⟩
def f137s8 (a : ByteArray) : St := stOf [(2, .c (.str a))] [] []
def f137l8 : Clean := ⟨[2], [], [], [], []⟩
def f137B : Nat → Option Clean := lookL [(0, f137l2), (2, f137l7), (1000000, f137l8)]
abbrev f137i {ρ : Type} (N : Nat) (c : Code) (p : Plan) (σ : St) (K : KT ρ) : Option ρ := iCode f137G tab f137B N c p σ K
def f137c (n : Nat) : Code := codeN 99 (bodyOf Try.f137) n
theorem f137t1 N a (K : KT ρ) : f137i N (f137c 2) .n (f137s0 a) (joinK (some f137l1) K) =
 spec_FormatInt.Z1 N a (fun a => K .nrm (f137s1 a)) := by kernel_rfl
theorem f137t3 N a (K : KT ρ) : f137i N (f137c 5) .n (f137s1 a) (joinK (some f137l2) K) =
 spec_FormatInt.Z3 N a (fun b a => K .nrm (f137s2 b a)) := by kernel_rfl
theorem f137t5 N a b (K : KT ρ) : f137i N (f137c 11) .n (f137s2 a b) (joinK (some f137l3) K) =
 spec_FormatInt.Z5 N a b (fun a b c => K .nrm (f137s3 a b c)) := by kernel_rfl
theorem f137t9 N a b c (K : KT ρ) : f137i N (f137c 71) .n (f137s3 a b c) (joinK (some f137l3) K) =
 spec_FormatInt.Z9 N a b c (fun a b c => K .nrm (f137s3 a b c)) (fun a b => K (.exit 0) (f137s2 a b)) := by kernel_rfl
def f137p8 : Plan := .mk none (some f137l3) .n .n
abbrev f137w8 {ρ : Type} (N M : Nat) (σ : St) (K : KT ρ) : Option ρ := loopC (fun σ K => f137i N (f137c 71) .n σ K) f137l3 M σ K
theorem f137t8L {ρ : Type} (N : Nat) (K : KT ρ) : ∀ (M : Nat) (a : List Int) (b c : Int), f137w8 N M (f137s3 a b c) K =
 spec_FormatInt.Z8L N (fun a b => K (.exit 0) (f137s2 a b)) M a b c
 | 0, _, _, _ => rfl
 | M + 1, a, b, c => viaRoundS (fun k => spec_FormatInt.Z9 N a b c k (fun a b => K (.exit 0) (f137s2 a b))) (f137t9 N (K := seqK (fun σ => f137w8 N M σ K) K) ..) (fx3 fun a b c => f137t8L N K M a b c) (by kernel_rfl)
theorem f137t8 N a b c (K : KT ρ) : f137i N (f137c 39) f137p8 (f137s3 a b c) (joinK (some f137l2) K) =
  spec_FormatInt.Z8 N a b c (fun a b => K (.exit 0) (f137s2 a b)) :=
 viaLoopS (by kernel_rfl) (f137t8L N (joinK (some f137l2) K) N a b c) (by kernel_rfl)
def f137p7 : Plan := .mk (some f137l2) none f137p8 .n
theorem f137t7 N a b c (K : KT ρ) : f137i N (f137c 23) f137p7 (f137s3 a b c) (joinK (some f137l2) K) =
  spec_FormatInt.Z7 N a b c (fun a b => K .nrm (f137s2 a b)) :=
 viaBlockS (by kernel_rfl) (f137t8 N (K := blockK 0 (joinK (some f137l2) K)) ..) (by kernel_rfl)
theorem f137t11 N a b (K : KT ρ) : f137i N (f137c 47) .n (f137s2 a b) (joinK (some f137l4) K) =
 spec_FormatInt.Z11 N a b (fun a c b => K .nrm (f137s4 a c b)) := by kernel_rfl
theorem f137t13 N a b c (K : KT ρ) : f137i N (f137c 95) .n (f137s4 a b c) (joinK (some f137l5) K) =
 spec_FormatInt.Z13 N a b c (fun a b => K .nrm (f137s5 a b)) := by kernel_rfl
theorem f137t16 N a b (K : KT ρ) : f137i N (f137c 319) .n (f137s5 a b) (joinK (some f137l6) K) =
 spec_FormatInt.Z16 N a b (fun a b c => K .nrm (f137s6 a b c)) := by kernel_rfl
theorem f137t19 N b a c (K : KT ρ) : f137i N (f137c 1215) .n (f137s6 b a c) (joinK (some f137l6) K) =
 spec_FormatInt.Z19 N b a c (fun b a c => K .nrm (f137s6 b a c)) (fun a => K (.exit 2) (f137s7 a)) := by kernel_rfl
def f137p18 : Plan := .mk none (some f137l6) .n .n
abbrev f137w18 {ρ : Type} (N M : Nat) (σ : St) (K : KT ρ) : Option ρ := loopC (fun σ K => f137i N (f137c 1215) .n σ K) f137l6 M σ K
theorem f137t18L {ρ : Type} (N : Nat) (K : KT ρ) : ∀ (M : Nat) (b a : List Int) (c : Int), f137w18 N M (f137s6 b a c) K =
 spec_FormatInt.Z18L N (fun a => K (.exit 2) (f137s7 a)) M b a c
 | 0, _, _, _ => rfl
 | M + 1, b, a, c => viaRoundS (fun k => spec_FormatInt.Z19 N b a c k (fun a => K (.exit 2) (f137s7 a))) (f137t19 N (K := seqK (fun σ => f137w18 N M σ K) K) ..) (fx3 fun b a c => f137t18L N K M b a c) (by kernel_rfl)
theorem f137t18 N b a c (K : KT ρ) : f137i N (f137c 703) f137p18 (f137s6 b a c) (joinK (some f137l7) K) =
  spec_FormatInt.Z18 N b a c (fun a => K (.exit 2) (f137s7 a)) :=
 viaLoopS (by kernel_rfl) (f137t18L N (joinK (some f137l7) K) N b a c) (by kernel_rfl)
def f137p17 : Plan := .mk (some f137l7) none f137p18 .n
theorem f137t17 N b a c (K : KT ρ) : f137i N (f137c 447) f137p17 (f137s6 b a c) (joinK (some f137l7) K) =
  spec_FormatInt.Z17 N b a c (fun a => K .nrm (f137s7 a)) :=
 viaBlockS (by kernel_rfl) (f137t18 N (K := blockK 2 (joinK (some f137l7) K)) ..) (by kernel_rfl)
def f137p15 : Plan := .mk (some f137l6) none .n f137p17
theorem f137t15 N b a (K : KT ρ) : f137i N (f137c 191) f137p15 (f137s5 b a) (joinK (some f137l7) K) =
  spec_FormatInt.Z15 N b a (fun a => K .nrm (f137s7 a)) :=
 viaSeqS (fun k => spec_FormatInt.Z16 N b a k) (by kernel_rfl) (f137t16 N (K := seqK (fun σ => f137i N (f137c 447) f137p17 σ (joinK (some f137l7) K)) (joinK (some f137l7) K)) ..) (fx3 fun b a c => f137t17 N b a c K) (by kernel_rfl)
theorem f137t20 N a (K : KT ρ) : f137i N (f137c 255) .n (f137s7 a) (joinK (some f137lE) K) =
 spec_FormatInt.Z20 N a (fun b => K .ret (f137s8 b)) := by kernel_rfl
def f137p14 : Plan := .mk (some f137l7) none f137p15 .n
theorem f137t14 N b a (K : KT ρ) : f137i N (f137c 127) f137p14 (f137s5 b a) (joinK (some f137lE) K) =
  spec_FormatInt.Z14 N b a (fun c => K .ret (f137s8 c)) :=
 viaSeqS (fun k => spec_FormatInt.Z15 N b a k) (by kernel_rfl) (f137t15 N (K := seqK (fun σ => f137i N (f137c 255) .n σ (joinK (some f137lE) K)) (joinK (some f137lE) K)) ..) (funext fun a => f137t20 N a K) (by kernel_rfl)
def f137p12 : Plan := .mk (some f137l5) none .n f137p14
theorem f137t12 N a b c (K : KT ρ) : f137i N (f137c 63) f137p12 (f137s4 a b c) (joinK (some f137lE) K) =
  spec_FormatInt.Z12 N a b c (fun d => K .ret (f137s8 d)) :=
 viaSeqS (fun k => spec_FormatInt.Z13 N a b c k) (by kernel_rfl) (f137t13 N (K := seqK (fun σ => f137i N (f137c 127) f137p14 σ (joinK (some f137lE) K)) (joinK (some f137lE) K)) ..) (fx2 fun a b => f137t14 N a b K) (by kernel_rfl)
def f137p10 : Plan := .mk (some f137l4) none .n f137p12
theorem f137t10 N a b (K : KT ρ) : f137i N (f137c 31) f137p10 (f137s2 a b) (joinK (some f137lE) K) =
  spec_FormatInt.Z10 N a b (fun c => K .ret (f137s8 c)) :=
 viaSeqS (fun k => spec_FormatInt.Z11 N a b k) (by kernel_rfl) (f137t11 N (K := seqK (fun σ => f137i N (f137c 63) f137p12 σ (joinK (some f137lE) K)) (joinK (some f137lE) K)) ..) (fx3 fun a d b => f137t12 N a d b K) (by kernel_rfl)
def f137p6 : Plan := .mk (some f137l2) none f137p7 f137p10
theorem f137t6 N a b c (K : KT ρ) : f137i N (f137c 15) f137p6 (f137s3 a b c) (joinK (some f137lE) K) =
  spec_FormatInt.Z6 N a b c (fun d => K .ret (f137s8 d)) :=
 viaSeqS (fun k => spec_FormatInt.Z7 N a b c k) (by kernel_rfl) (f137t7 N (K := seqK (fun σ => f137i N (f137c 31) f137p10 σ (joinK (some f137lE) K)) (joinK (some f137lE) K)) ..) (fx2 fun a b => f137t10 N a b K) (by kernel_rfl)
def f137p4 : Plan := .mk (some f137l3) none .n f137p6
theorem f137t4 N a b (K : KT ρ) : f137i N (f137c 7) f137p4 (f137s2 a b) (joinK (some f137lE) K) =
  spec_FormatInt.Z4 N a b (fun c => K .ret (f137s8 c)) :=
 viaSeqS (fun k => spec_FormatInt.Z5 N a b k) (by kernel_rfl) (f137t5 N (K := seqK (fun σ => f137i N (f137c 15) f137p6 σ (joinK (some f137lE) K)) (joinK (some f137lE) K)) ..) (fx3 fun a b d => f137t6 N a b d K) (by kernel_rfl)
def f137p2 : Plan := .mk (some f137l2) none .n f137p4
theorem f137t2 N a (K : KT ρ) : f137i N (f137c 3) f137p2 (f137s1 a) (joinK (some f137lE) K) =
  spec_FormatInt.Z2 N a (fun b => K .ret (f137s8 b)) :=
 viaSeqS (fun k => spec_FormatInt.Z3 N a k) (by kernel_rfl) (f137t3 N (K := seqK (fun σ => f137i N (f137c 7) f137p4 σ (joinK (some f137lE) K)) (joinK (some f137lE) K)) ..) (fx2 fun c a => f137t4 N c a K) (by kernel_rfl)
def f137p0 : Plan := .mk (some f137l1) none .n f137p2
theorem f137t0 N a (K : KT ρ) : f137i N (f137c 1) f137p0 (f137s0 a) (joinK (some f137lE) K) =
  spec_FormatInt.Z0 N a (fun b => K .ret (f137s8 b)) :=
 viaSeqS (fun k => spec_FormatInt.Z1 N a k) (by kernel_rfl) (f137t1 N (K := seqK (fun σ => f137i N (f137c 3) f137p2 σ (joinK (some f137lE) K)) (joinK (some f137lE) K)) ..) (funext fun a => f137t2 N a K) (by kernel_rfl)
theorem f137m (N : Nat) (a : Int) : f137i N (f137c 1) f137p0 (f137s0 a) (joinK (some f137lE) (finK tab f137sig Try.f137.results.toList)) = spec_FormatInt.Z0 N a (fun b => some ((), (b, ()))) :=
 (f137t0 N a (finK tab f137sig Try.f137.results.toList)).trans (by kernel_rfl)
theorem f137ok (h : spec_FormatInt.Spec) : EntryOk Try.prog 137 e137 :=
 entry_of_code (sig := f137sig) (c := (f137c 1)) (pl := f137p0) (je := (some f137lE)) (B := f137B) Try.func137 (by kernel_rfl) (by kernel_rfl) (by kernel_rfl) tabOk f137GOk (by kernel_rfl) (by kernel_rfl) (by kernel_rfl) (by kernel_rfl) fun X hb hp => by
  obtain ⟨a, _⟩ := X
  obtain ⟨N, h⟩ := h a hp
  exact ⟨N, (f137m N a).trans (h N (Nat.le_refl N))⟩
theorem e137ok : EntryOk Try.prog 137 e137 := f137ok spec_FormatInt.ok
end Go.Fw
namespace Go.Fw
variable {ρ : Type}
open Go.Proofs
def f126k : VarK := ⟨113, [(5, .int .u8)], .pair (.int .i64) (.int .i64)⟩
def f126ps : List PT := [⟨.int .i64, false, false⟩]
def f126rs : List PT := [⟨.pair (.int .i64) (.pair (.int .i64) (.sl 3 (.int .i64))), true, false⟩, ⟨.str, false, false⟩]
def e126 : EntryV := ⟨f126k, f126ps, true, f126rs, (some fun X => spec_dTree.P X.1.1.1 X.1.2 X.2.1), fun X => ((spec_dTree.g X.1.1.1 X.1.2 X.2.1).1, ((), ((spec_dTree.g X.1.1.1 X.1.2 X.2.1).2.1, ((spec_dTree.g X.1.1.1 X.1.2 X.2.1).2.2, ()))))⟩
def f126G : Gm := addG (addV (addG (addV emptyG 69 e69) 124 e124) 125 e125) 137 e137
theorem f126GOk : GOk Try.prog f126G := ((((GOk.nil).addV e69ok (by kernel_rfl)).add e124ok (by kernel_rfl)).addV e125ok (by kernel_rfl)).add e137ok (by kernel_rfl)
def f126lE : Clean := ⟨[], [], [], [], []⟩
def f126s0 (u0 : Value) (b0 : List Int) (r0 : Int × Int) (a : Int) : St := initStV f126k f126ps [u0] (((b0, ()), r0), (a, ()))
def f126s1 (u0 : Value) (a : Int) (b : List Int) (c d e f : Int) : St := stOf [(0, xb 100000), (1, xi a), (4, xb 4), (100000, xb 100000)] [(100000, (113, [.bor u0 5 (.int .u8) b, yi c, yi d])), (4, (30, [yi e, yi f, .nil]))] []
def f126l1 : Clean := ⟨[0, 1, 4, 100000], [100000, 4], [], [], []⟩
def f126s2 (u0 : Value) (a b : Int) (c : List Int) (d e f g : Int) : St := stOf [(0, xb 100000), (1, xi a), (4, xb 4), (6, xi b), (100000, xb 100000)] [(100000, (113, [.bor u0 5 (.int .u8) c, yi d, yi e])), (4, (30, [yi f, yi g, .nil]))] []
def f126l2 : Clean := ⟨[0, 1, 4, 6, 100000], [100000, 4], [], [], []⟩
def f126s3 (u0 : Value) (a b c : Int) (d : List Int) (e f g h : Int) : St := stOf [(0, xb 100000), (1, xi a), (4, xb 4), (6, xi b), (7, xi c), (100000, xb 100000)] [(100000, (113, [.bor u0 5 (.int .u8) d, yi e, yi f])), (4, (30, [yi g, yi h, .nil]))] []
def f126l3 : Clean := ⟨[0, 1, 4, 6, 7, 100000], [100000, 4], [], [], []⟩
def f126s4 (u0 : Value) (a b : Int) (c : List Int) (d e f g : Int) : St := stOf [(0, xb 100000), (4, xb 4), (6, xi a), (7, xi b), (100000, xb 100000)] [(100000, (113, [.bor u0 5 (.int .u8) c, yi d, yi e])), (4, (30, [yi f, yi g, .nil]))] []
def f126l4 : Clean := ⟨[0, 4, 6, 7, 100000], [100000, 4], [], [], []⟩
def f126s5 (u0 : Value) (a b c : Int) (d : List Int) (e f g h : Int) : St := stOf [(0, xb 100000), (4, xb 4), (6, xi a), (7, xi b), (64, xi c), (100000, xb 100000)] [(100000, (113, [.bor u0 5 (.int .u8) d, yi e, yi f])), (4, (30, [yi g, yi h, .nil]))] []
def f126l5 : Clean := ⟨[0, 4, 6, 7, 64, 100000], [100000, 4], [], [], []⟩
def f126s6 (u0 : Value) (a b c : Int) (d : Bool) (e : List Int) (f g h i : Int) : St := stOf [(0, xb 100000), (4, xb 4), (6, xi a), (7, xi b), (64, xi c), (65, xB d), (100000, xb 100000)] [(100000, (113, [.bor u0 5 (.int .u8) e, yi f, yi g])), (4, (30, [yi h, yi i, .nil]))] []
def f126l6 : Clean := ⟨[0, 4, 6, 7, 64, 65, 100000], [100000, 4], [], [], []⟩
def f126s7 (u0 : Value) (a : LI) (b c : Int) (d : List Int) (e f g h i j : Int) : St := stOf [(0, xb 100000), (4, xb 4), (6, xi b), (7, xi c), (8, xb 8), (100000, xb 100000)] [(100000, (113, [.bor u0 5 (.int .u8) d, yi e, yi f])), (4, (30, [yi g, yi h, .nil])), (8, (30, [yi i, yi j, .own 20000514]))] [(20000514, (⟨3, .int .i64, a, true, false⟩ : Row))]
def f126l7 : Clean := ⟨[0, 4, 6, 7, 8, 100000], [100000, 4, 8], [], [], [(⟨true, 8, 2⟩, 20000514)]⟩
def f126s8 (u0 : Value) (a : LI) (b c d : Int) (e : List Int) (f g h i j l : Int) : St := stOf [(0, xb 100000), (4, xb 4), (6, xi b), (7, xi c), (8, xb 8), (9, xi d), (100000, xb 100000)] [(100000, (113, [.bor u0 5 (.int .u8) e, yi f, yi g])), (4, (30, [yi h, yi i, .nil])), (8, (30, [yi j, yi l, .own 20000514]))] [(20000514, (⟨3, .int .i64, a, true, false⟩ : Row))]
def f126l8 : Clean := ⟨[0, 4, 6, 7, 8, 9, 100000], [100000, 4, 8], [], [], [(⟨true, 8, 2⟩, 20000514)]⟩
def f126s9 (u0 : Value) (a b : Int) (c : Bool) (d : List Int) (e f g h : Int) : St := stOf [(0, xb 100000), (4, xb 4), (7, xi a), (64, xi b), (110, xB c), (100000, xb 100000)] [(100000, (113, [.bor u0 5 (.int .u8) d, yi e, yi f])), (4, (30, [yi g, yi h, .nil]))] []
def f126l9 : Clean := ⟨[0, 4, 7, 64, 110, 100000], [100000, 4], [], [], []⟩
def f126s10 (u0 : Value) (a b : Int) (c : Bool) (d : List Int) (e f g h : Int) : St := stOf [(0, xb 100000), (4, xb 4), (7, xi a), (64, xi b), (119, xB c), (100000, xb 100000)] [(100000, (113, [.bor u0 5 (.int .u8) d, yi e, yi f])), (4, (30, [yi g, yi h, .nil]))] []
def f126l10 : Clean := ⟨[0, 4, 7, 64, 119, 100000], [100000, 4], [], [], []⟩
def f126s11 (u0 : Value) (a b : Int) (c : Bool) (d : List Int) (e f g h : Int) : St := stOf [(0, xb 100000), (4, xb 4), (7, xi a), (64, xi b), (126, xB c), (100000, xb 100000)] [(100000, (113, [.bor u0 5 (.int .u8) d, yi e, yi f])), (4, (30, [yi g, yi h, .nil]))] []
def f126l11 : Clean := ⟨[0, 4, 7, 64, 126, 100000], [100000, 4], [], [], []⟩
def f126s12 (u0 : Value) (a : LI) (b : List Int) (c d e f g h : Int) : St := stOf [(0, xb 100000), (4, xb 4), (12, xb 12), (100000, xb 100000)] [(100000, (113, [.bor u0 5 (.int .u8) b, yi c, yi d])), (4, (30, [yi e, yi f, .nil])), (12, (30, [yi g, yi h, .own 20000770]))] [(20000770, (⟨3, .int .i64, a, true, false⟩ : Row))]
def f126l12 : Clean := ⟨[0, 4, 12, 100000], [100000, 4, 12], [], [], [(⟨true, 12, 2⟩, 20000770)]⟩
def f126s13 (u0 : Value) (a : LI) (b : Int) (c : List Int) (d e f g h i : Int) : St := stOf [(0, xb 100000), (4, xb 4), (12, xb 12), (13, xi b), (100000, xb 100000)] [(100000, (113, [.bor u0 5 (.int .u8) c, yi d, yi e])), (4, (30, [yi f, yi g, .nil])), (12, (30, [yi h, yi i, .own 20000770]))] [(20000770, (⟨3, .int .i64, a, true, false⟩ : Row))]
def f126l13 : Clean := ⟨[0, 4, 12, 13, 100000], [100000, 4, 12], [], [], [(⟨true, 12, 2⟩, 20000770)]⟩
def f126s14 (u0 : Value) (a : LI) (b c d e : Int) (f : List Int) (g h : Int) : St := stOf [(4, xb 4), (12, xb 12), (100000, xb 100000)] [(4, (30, [yi b, yi c, .nil])), (12, (30, [yi d, yi e, .own 20000770])), (100000, (113, [.bor u0 5 (.int .u8) f, yi g, yi h]))] [(20000770, (⟨3, .int .i64, a, true, false⟩ : Row))]
def f126l14 : Clean := ⟨[4, 12, 100000], [4, 12, 100000], [], [], [(⟨true, 12, 2⟩, 20000770)]⟩
def f126s15 (u0 : Value) (a : Int) (b : List Int) (c d e f : Int) : St := stOf [(0, xb 100000), (4, xb 4), (7, xi a), (100000, xb 100000)] [(100000, (113, [.bor u0 5 (.int .u8) b, yi c, yi d])), (4, (30, [yi e, yi f, .nil]))] []
def f126l15 : Clean := ⟨[0, 4, 7, 100000], [100000, 4], [], [], []⟩
def f126s16 (u0 : Value) (a : LI) (b : Int) (c : List Int) (d e f g h i : Int) : St := stOf [(0, xb 100000), (4, xb 4), (7, xi b), (16, xb 16), (100000, xb 100000)] [(100000, (113, [.bor u0 5 (.int .u8) c, yi d, yi e])), (4, (30, [yi f, yi g, .nil])), (16, (30, [yi h, yi i, .own 20001026]))] [(20001026, (⟨3, .int .i64, a, true, false⟩ : Row))]
def f126l16 : Clean := ⟨[0, 4, 7, 16, 100000], [100000, 4, 16], [], [], [(⟨true, 16, 2⟩, 20001026)]⟩
def f126s17 (u0 : Value) (a : LI) (b c : Int) (d : List Int) (e f g h i j : Int) : St := stOf [(0, xb 100000), (4, xb 4), (7, xi b), (16, xb 16), (17, xi c), (100000, xb 100000)] [(100000, (113, [.bor u0 5 (.int .u8) d, yi e, yi f])), (4, (30, [yi g, yi h, .nil])), (16, (30, [yi i, yi j, .own 20001026]))] [(20001026, (⟨3, .int .i64, a, true, false⟩ : Row))]
def f126l17 : Clean := ⟨[0, 4, 7, 16, 17, 100000], [100000, 4, 16], [], [], [(⟨true, 16, 2⟩, 20001026)]⟩
def f126s18 (u0 : Value) (a : LI) (b c d e f : Int) (g : List Int) (h i : Int) : St := stOf [(4, xb 4), (7, xi b), (16, xb 16), (100000, xb 100000)] [(4, (30, [yi c, yi d, .nil])), (16, (30, [yi e, yi f, .own 20001026])), (100000, (113, [.bor u0 5 (.int .u8) g, yi h, yi i]))] [(20001026, (⟨3, .int .i64, a, true, false⟩ : Row))]
def f126l18 : Clean := ⟨[4, 7, 16, 100000], [4, 16, 100000], [], [], [(⟨true, 16, 2⟩, 20001026)]⟩
def f126s19 (u0 : Value) (a : LI) (b : ByteArray) (d e : Int) (f : List Int) (g h : Int) : St := stOf [(4, xb 4), (5, .c (.str b)), (100000, xb 100000)] [(4, (30, [yi d, yi e, .own 20000258])), (100000, (113, [.bor u0 5 (.int .u8) f, yi g, yi h]))] [(20000258, (⟨3, .int .i64, a, true, false⟩ : Row))]
def f126l19 : Clean := ⟨[4, 5, 100000], [4, 100000], [], [], [(⟨true, 4, 2⟩, 20000258)]⟩
def f126B : Nat → Option Clean := lookL [(1, f126l7), (3, f126l14), (0, f126l15), (5, f126l18), (1000000, f126l19)]
abbrev f126i {ρ : Type} (N : Nat) (c : Code) (p : Plan) (σ : St) (K : KT ρ) : Option ρ := iCode f126G tab f126B N c p σ K
def f126c (n : Nat) : Code := codeN 99 (bodyOf Try.f126) n
theorem f126t1 N u0 b0 r0 a (K : KT ρ) : f126i N (f126c 2) .n (f126s0 u0 b0 r0 a) (joinK (some f126l1) K) =
 spec_dTree.Z1 N b0 r0 a (fun a b c d e f => K .nrm (f126s1 u0 a b c d e f)) := by kernel_rfl
theorem f126t3 N u0 a b c d e f (K : KT ρ) : f126i N (f126c 5) .n (f126s1 u0 a b c d e f) (joinK (some f126l2) K) =
 spec_dTree.Z3 N a b c d e f (fun a g b c d e f => K .nrm (f126s2 u0 a g b c d e f)) := by kernel_rfl
theorem f126t5 N u0 a b c d e f g (K : KT ρ) : f126i N (f126c 11) .n (f126s2 u0 a b c d e f g) (joinK (some f126l3) K) =
 spec_dTree.Z5 N a b c d e f g (fun a b h c d e f g => K .nrm (f126s3 u0 a b h c d e f g)) := by kernel_rfl
theorem f126t7 N u0 a b c d e f g h (K : KT ρ) : f126i N (f126c 23) .n (f126s3 u0 a b c d e f g h) (joinK (some f126l3) K) =
 spec_dTree.Z7 N a b c d e f g h (fun a b c d e f g h => K .nrm (f126s3 u0 a b c d e f g h)) := by kernel_rfl
theorem f126t9 N u0 h a b c d e f g (K : KT ρ) : f126i N (f126c 47) .n (f126s3 u0 h a b c d e f g) (joinK (some f126l4) K) =
 spec_dTree.Z9 N h a b c d e f g (fun a b c d e f g => K .nrm (f126s4 u0 a b c d e f g)) := by kernel_rfl
theorem f126t12 N u0 a b c d e f g (K : KT ρ) : f126i N (f126c 159) .n (f126s4 u0 a b c d e f g) (joinK (some f126l5) K) =
 spec_dTree.Z12 N a b c d e f g (fun a b h c d e f g => K .nrm (f126s5 u0 a b h c d e f g)) := by kernel_rfl
theorem f126t15 N u0 a b c d e f g h (K : KT ρ) : f126i N (f126c 607) .n (f126s5 u0 a b c d e f g h) (joinK (some f126l6) K) =
 spec_dTree.Z15 N a b c d e f g h (fun a b c i d e f g h => K .nrm (f126s6 u0 a b c i d e f g h)) := by kernel_rfl
theorem f126t18 N u0 a b h i c d e f g (K : KT ρ) : f126i N (f126c 2399) .n (f126s6 u0 a b h i c d e f g) (joinK (some f126l7) K) =
 spec_dTree.Z18 N a b h i c d e f g (fun j a b c d e f g l m => K .nrm (f126s7 u0 j a b c d e f g l m)) := by kernel_rfl
theorem f126t21 N u0 a b c d e f g h i j (K : KT ρ) : f126i N (f126c 9567) .n (f126s7 u0 a b c d e f g h i j) (joinK (some f126l8) K) =
 spec_dTree.Z21 N a b c d e f g h i j (fun a b c l d e f g h i j => K .nrm (f126s8 u0 a b c l d e f g h i j)) := by kernel_rfl
theorem f126t24 N u0 a b c l d e f g h i j (K : KT ρ) : f126i N (f126c 38239) .n (f126s8 u0 a b c l d e f g h i j) (joinK (some f126l8) K) =
 spec_dTree.Z24 N a b c l d e f g h i j (fun a b c l d e f g h i j => K .nrm (f126s8 u0 a b c l d e f g h i j)) (fun a b c d e f g h i j => K (.exit 1) (f126s7 u0 a b c d e f g h i j)) := by kernel_rfl
def f126p23 : Plan := .mk none (some f126l8) .n .n
abbrev f126w23 {ρ : Type} (N M : Nat) (σ : St) (K : KT ρ) : Option ρ := loopC (fun σ K => f126i N (f126c 38239) .n σ K) f126l8 M σ K
theorem f126t23L {ρ : Type} (N : Nat) (u0 : Value) (K : KT ρ) : ∀ (M : Nat) (a : LI) (b c l : Int) (d : List Int) (e f g h i j : Int), f126w23 N M (f126s8 u0 a b c l d e f g h i j) K =
 spec_dTree.Z23L N (fun a b c d e f g h i j => K (.exit 1) (f126s7 u0 a b c d e f g h i j)) M a b c l d e f g h i j
 | 0, _, _, _, _, _, _, _, _, _, _, _ => rfl
 | M + 1, a, b, c, l, d, e, f, g, h, i, j => viaRoundS (fun k => spec_dTree.Z24 N a b c l d e f g h i j k (fun a b c d e f g h i j => K (.exit 1) (f126s7 u0 a b c d e f g h i j))) (f126t24 N u0 (K := seqK (fun σ => f126w23 N M σ K) K) ..) (fx11 fun a b c l d e f g h i j => f126t23L N u0 K M a b c l d e f g h i j) (by kernel_rfl)
theorem f126t23 N u0 a b c l d e f g h i j (K : KT ρ) : f126i N (f126c 21855) f126p23 (f126s8 u0 a b c l d e f g h i j) (joinK (some f126l7) K) =
  spec_dTree.Z23 N a b c l d e f g h i j (fun a b c d e f g h i j => K (.exit 1) (f126s7 u0 a b c d e f g h i j)) :=
 viaLoopS (by kernel_rfl) (f126t23L N u0 (joinK (some f126l7) K) N a b c l d e f g h i j) (by kernel_rfl)
def f126p22 : Plan := .mk (some f126l7) none f126p23 .n
theorem f126t22 N u0 a b c l d e f g h i j (K : KT ρ) : f126i N (f126c 13663) f126p22 (f126s8 u0 a b c l d e f g h i j) (joinK (some f126l7) K) =
  spec_dTree.Z22 N a b c l d e f g h i j (fun a b c d e f g h i j => K .nrm (f126s7 u0 a b c d e f g h i j)) :=
 viaBlockS (by kernel_rfl) (f126t23 N u0 (K := blockK 1 (joinK (some f126l7) K)) ..) (by kernel_rfl)
def f126p20 : Plan := .mk (some f126l8) none .n f126p22
theorem f126t20 N u0 a b c d e f g h i j (K : KT ρ) : f126i N (f126c 5471) f126p20 (f126s7 u0 a b c d e f g h i j) (joinK (some f126l7) K) =
  spec_dTree.Z20 N a b c d e f g h i j (fun a b c d e f g h i j => K .nrm (f126s7 u0 a b c d e f g h i j)) :=
 viaSeqS (fun k => spec_dTree.Z21 N a b c d e f g h i j k) (by kernel_rfl) (f126t21 N u0 (K := seqK (fun σ => f126i N (f126c 13663) f126p22 σ (joinK (some f126l7) K)) (joinK (some f126l7) K)) ..) (fx11 fun a b c l d e f g h i j => f126t22 N u0 a b c l d e f g h i j K) (by kernel_rfl)
theorem f126t25 N u0 f g h a b c d e i j (K : KT ρ) : f126i N (f126c 7519) .n (f126s7 u0 f g h a b c d e i j) (joinK (some f126l15) K) =
 spec_dTree.Z25 N f g h a b c d e i j (fun l m d e a b c => K .ret (f126s19 u0 l m d e a b c)) := by kernel_rfl
def f126p19 : Plan := .mk (some f126l7) none f126p20 .n
theorem f126t19 N u0 f g h a b c d e i j (K : KT ρ) : f126i N (f126c 3423) f126p19 (f126s7 u0 f g h a b c d e i j) (joinK (some f126l15) K) =
  spec_dTree.Z19 N f g h a b c d e i j (fun l m d e a b c => K .ret (f126s19 u0 l m d e a b c)) :=
 viaSeqS (fun k => spec_dTree.Z20 N f g h a b c d e i j k) (by kernel_rfl) (f126t20 N u0 (K := seqK (fun σ => f126i N (f126c 7519) .n σ (joinK (some f126l15) K)) (joinK (some f126l15) K)) ..) (fx10 fun f g h a b c d e i j => f126t25 N u0 f g h a b c d e i j K) (by kernel_rfl)
def f126p17 : Plan := .mk (some f126l7) none .n f126p19
theorem f126t17 N u0 f g h i a b c d e (K : KT ρ) : f126i N (f126c 1375) f126p17 (f126s6 u0 f g h i a b c d e) (joinK (some f126l15) K) =
  spec_dTree.Z17 N f g h i a b c d e (fun j l d e a b c => K .ret (f126s19 u0 j l d e a b c)) :=
 viaSeqS (fun k => spec_dTree.Z18 N f g h i a b c d e k) (by kernel_rfl) (f126t18 N u0 (K := seqK (fun σ => f126i N (f126c 3423) f126p19 σ (joinK (some f126l15) K)) (joinK (some f126l15) K)) ..) (fx10 fun m f g a b c d e o p => f126t19 N u0 m f g a b c d e o p K) (by kernel_rfl)
theorem f126t27 N u0 h a b i c d e f g (K : KT ρ) : f126i N (f126c 2911) .n (f126s6 u0 h a b i c d e f g) (joinK (some f126l9) K) =
 spec_dTree.Z27 N h a b i c d e f g (fun a b j c d e f g => K .nrm (f126s9 u0 a b j c d e f g)) := by kernel_rfl
theorem f126t29 N u0 f g h a b c d e (K : KT ρ) : f126i N (f126c 5983) .n (f126s9 u0 f g h a b c d e) (joinK (some f126l15) K) =
 spec_dTree.Z29 N f g h a b c d e (fun i j d e a b c => K .ret (f126s19 u0 i j d e a b c)) := by kernel_rfl
theorem f126t31 N u0 a b h c d e f g (K : KT ρ) : f126i N (f126c 12127) .n (f126s9 u0 a b h c d e f g) (joinK (some f126l10) K) =
 spec_dTree.Z31 N a b h c d e f g (fun a b i c d e f g => K .nrm (f126s10 u0 a b i c d e f g)) := by kernel_rfl
theorem f126t33 N u0 f g h a b c d e (K : KT ρ) : f126i N (f126c 24415) .n (f126s10 u0 f g h a b c d e) (joinK (some f126l15) K) =
 spec_dTree.Z33 N f g h a b c d e (fun i j d e a b c => K .ret (f126s19 u0 i j d e a b c)) := by kernel_rfl
theorem f126t35 N u0 a b h c d e f g (K : KT ρ) : f126i N (f126c 48991) .n (f126s10 u0 a b h c d e f g) (joinK (some f126l11) K) =
 spec_dTree.Z35 N a b h c d e f g (fun a b i c d e f g => K .nrm (f126s11 u0 a b i c d e f g)) := by kernel_rfl
theorem f126t38 N u0 f g h a b c d e (K : KT ρ) : f126i N (f126c 163679) .n (f126s11 u0 f g h a b c d e) (joinK (some f126l12) K) =
 spec_dTree.Z38 N f g h a b c d e (fun i a b c d e j l => K .nrm (f126s12 u0 i a b c d e j l)) := by kernel_rfl
theorem f126t41 N u0 a b c d e f g h (K : KT ρ) : f126i N (f126c 622431) .n (f126s12 u0 a b c d e f g h) (joinK (some f126l13) K) =
 spec_dTree.Z41 N a b c d e f g h (fun a i b c d e f g h => K .nrm (f126s13 u0 a i b c d e f g h)) := by kernel_rfl
theorem f126t44 N u0 a i b c d e f g h (K : KT ρ) : f126i N (f126c 2457439) .n (f126s13 u0 a i b c d e f g h) (joinK (some f126l13) K) =
 spec_dTree.Z44 N a i b c d e f g h (fun a i b c d e f g h => K .nrm (f126s13 u0 a i b c d e f g h)) (fun a e f g h b c d => K (.exit 3) (f126s14 u0 a e f g h b c d)) := by kernel_rfl
def f126p43 : Plan := .mk none (some f126l13) .n .n
abbrev f126w43 {ρ : Type} (N M : Nat) (σ : St) (K : KT ρ) : Option ρ := loopC (fun σ K => f126i N (f126c 2457439) .n σ K) f126l13 M σ K
theorem f126t43L {ρ : Type} (N : Nat) (u0 : Value) (K : KT ρ) : ∀ (M : Nat) (a : LI) (i : Int) (b : List Int) (c d e f g h : Int), f126w43 N M (f126s13 u0 a i b c d e f g h) K =
 spec_dTree.Z43L N (fun a e f g h b c d => K (.exit 3) (f126s14 u0 a e f g h b c d)) M a i b c d e f g h
 | 0, _, _, _, _, _, _, _, _, _ => rfl
 | M + 1, a, i, b, c, d, e, f, g, h => viaRoundS (fun k => spec_dTree.Z44 N a i b c d e f g h k (fun a e f g h b c d => K (.exit 3) (f126s14 u0 a e f g h b c d))) (f126t44 N u0 (K := seqK (fun σ => f126w43 N M σ K) K) ..) (fx9 fun a i b c d e f g h => f126t43L N u0 K M a i b c d e f g h) (by kernel_rfl)
theorem f126t43 N u0 a i b c d e f g h (K : KT ρ) : f126i N (f126c 1408863) f126p43 (f126s13 u0 a i b c d e f g h) (joinK (some f126l14) K) =
  spec_dTree.Z43 N a i b c d e f g h (fun a e f g h b c d => K (.exit 3) (f126s14 u0 a e f g h b c d)) :=
 viaLoopS (by kernel_rfl) (f126t43L N u0 (joinK (some f126l14) K) N a i b c d e f g h) (by kernel_rfl)
def f126p42 : Plan := .mk (some f126l14) none f126p43 .n
theorem f126t42 N u0 a i b c d e f g h (K : KT ρ) : f126i N (f126c 884575) f126p42 (f126s13 u0 a i b c d e f g h) (joinK (some f126l14) K) =
  spec_dTree.Z42 N a i b c d e f g h (fun a e f g h b c d => K .nrm (f126s14 u0 a e f g h b c d)) :=
 viaBlockS (by kernel_rfl) (f126t43 N u0 (K := blockK 3 (joinK (some f126l14) K)) ..) (by kernel_rfl)
def f126p40 : Plan := .mk (some f126l13) none .n f126p42
theorem f126t40 N u0 a b c d e f g h (K : KT ρ) : f126i N (f126c 360287) f126p40 (f126s12 u0 a b c d e f g h) (joinK (some f126l14) K) =
  spec_dTree.Z40 N a b c d e f g h (fun a e f g h b c d => K .nrm (f126s14 u0 a e f g h b c d)) :=
 viaSeqS (fun k => spec_dTree.Z41 N a b c d e f g h k) (by kernel_rfl) (f126t41 N u0 (K := seqK (fun σ => f126i N (f126c 884575) f126p42 σ (joinK (some f126l14) K)) (joinK (some f126l14) K)) ..) (fx9 fun a i b c d e f g h => f126t42 N u0 a i b c d e f g h K) (by kernel_rfl)
theorem f126t45 N u0 f a b g h c d e (K : KT ρ) : f126i N (f126c 491359) .n (f126s14 u0 f a b g h c d e) (joinK (some f126l15) K) =
 spec_dTree.Z45 N f a b g h c d e (fun i j a b c d e => K .ret (f126s19 u0 i j a b c d e)) := by kernel_rfl
def f126p39 : Plan := .mk (some f126l14) none f126p40 .n
theorem f126t39 N u0 f a b c d e g h (K : KT ρ) : f126i N (f126c 229215) f126p39 (f126s12 u0 f a b c d e g h) (joinK (some f126l15) K) =
  spec_dTree.Z39 N f a b c d e g h (fun i j d e a b c => K .ret (f126s19 u0 i j d e a b c)) :=
 viaSeqS (fun k => spec_dTree.Z40 N f a b c d e g h k) (by kernel_rfl) (f126t40 N u0 (K := seqK (fun σ => f126i N (f126c 491359) .n σ (joinK (some f126l15) K)) (joinK (some f126l15) K)) ..) (fx8 fun f d e g h a b c => f126t45 N u0 f d e g h a b c K) (by kernel_rfl)
def f126p37 : Plan := .mk (some f126l12) none .n f126p39
theorem f126t37 N u0 f g h a b c d e (K : KT ρ) : f126i N (f126c 98143) f126p37 (f126s11 u0 f g h a b c d e) (joinK (some f126l15) K) =
  spec_dTree.Z37 N f g h a b c d e (fun i j d e a b c => K .ret (f126s19 u0 i j d e a b c)) :=
 viaSeqS (fun k => spec_dTree.Z38 N f g h a b c d e k) (by kernel_rfl) (f126t38 N u0 (K := seqK (fun σ => f126i N (f126c 229215) f126p39 σ (joinK (some f126l15) K)) (joinK (some f126l15) K)) ..) (fx8 fun l a b c d e m o => f126t39 N u0 l a b c d e m o K) (by kernel_rfl)
theorem f126t46 N u0 f g h a b c d e (K : KT ρ) : f126i N (f126c 130911) .n (f126s11 u0 f g h a b c d e) (joinK (some f126l15) K) =
 spec_dTree.Z46 N f g h a b c d e (fun f a b c d e => K .nrm (f126s15 u0 f a b c d e)) (fun i j d e a b c => K .ret (f126s19 u0 i j d e a b c)) := by kernel_rfl
def f126p36 : Plan := .mk none none f126p37 .n
theorem f126t36 N u0 f h g a b c d e (K : KT ρ) : f126i N (f126c 65375) f126p36 (f126s11 u0 f h g a b c d e) (joinK (some f126l15) K) =
  spec_dTree.Z36 N f h g a b c d e (fun f a b c d e => K .nrm (f126s15 u0 f a b c d e)) (fun i j d e a b c => K .ret (f126s19 u0 i j d e a b c)) :=
 viaCondS (x := .tmp 126) (t := g) (by kernel_rfl) (f126t37 N u0 (K := K) ..) (f126t46 N u0 (K := K) ..) (by kernel_rfl)
def f126p34 : Plan := .mk (some f126l11) none .n f126p36
theorem f126t34 N u0 f g h a b c d e (K : KT ρ) : f126i N (f126c 32607) f126p34 (f126s10 u0 f g h a b c d e) (joinK (some f126l15) K) =
  spec_dTree.Z34 N f g h a b c d e (fun f a b c d e => K .nrm (f126s15 u0 f a b c d e)) (fun i j d e a b c => K .ret (f126s19 u0 i j d e a b c)) :=
 viaSeqS (fun k => spec_dTree.Z35 N f g h a b c d e k) (by kernel_rfl) (f126t35 N u0 (K := seqK (fun σ => f126i N (f126c 65375) f126p36 σ (joinK (some f126l15) K)) (joinK (some f126l15) K)) ..) (fx8 fun f g l a b c d e => f126t36 N u0 f g l a b c d e K) (by kernel_rfl)
def f126p32 : Plan := .mk none none .n f126p34
theorem f126t32 N u0 f h g a b c d e (K : KT ρ) : f126i N (f126c 16223) f126p32 (f126s10 u0 f h g a b c d e) (joinK (some f126l15) K) =
  spec_dTree.Z32 N f h g a b c d e (fun f a b c d e => K .nrm (f126s15 u0 f a b c d e)) (fun i j d e a b c => K .ret (f126s19 u0 i j d e a b c)) :=
 viaCondS (x := .tmp 119) (t := g) (by kernel_rfl) (f126t33 N u0 (K := K) ..) (f126t34 N u0 (K := K) ..) (by kernel_rfl)
def f126p30 : Plan := .mk (some f126l10) none .n f126p32
theorem f126t30 N u0 f g h a b c d e (K : KT ρ) : f126i N (f126c 8031) f126p30 (f126s9 u0 f g h a b c d e) (joinK (some f126l15) K) =
  spec_dTree.Z30 N f g h a b c d e (fun f a b c d e => K .nrm (f126s15 u0 f a b c d e)) (fun i j d e a b c => K .ret (f126s19 u0 i j d e a b c)) :=
 viaSeqS (fun k => spec_dTree.Z31 N f g h a b c d e k) (by kernel_rfl) (f126t31 N u0 (K := seqK (fun σ => f126i N (f126c 16223) f126p32 σ (joinK (some f126l15) K)) (joinK (some f126l15) K)) ..) (fx8 fun f g l a b c d e => f126t32 N u0 f g l a b c d e K) (by kernel_rfl)
def f126p28 : Plan := .mk none none .n f126p30
theorem f126t28 N u0 f h g a b c d e (K : KT ρ) : f126i N (f126c 3935) f126p28 (f126s9 u0 f h g a b c d e) (joinK (some f126l15) K) =
  spec_dTree.Z28 N f h g a b c d e (fun f a b c d e => K .nrm (f126s15 u0 f a b c d e)) (fun i j d e a b c => K .ret (f126s19 u0 i j d e a b c)) :=
 viaCondS (x := .tmp 110) (t := g) (by kernel_rfl) (f126t29 N u0 (K := K) ..) (f126t30 N u0 (K := K) ..) (by kernel_rfl)
def f126p26 : Plan := .mk (some f126l9) none .n f126p28
theorem f126t26 N u0 h f g i a b c d e (K : KT ρ) : f126i N (f126c 1887) f126p26 (f126s6 u0 h f g i a b c d e) (joinK (some f126l15) K) =
  spec_dTree.Z26 N h f g i a b c d e (fun f a b c d e => K .nrm (f126s15 u0 f a b c d e)) (fun j l d e a b c => K .ret (f126s19 u0 j l d e a b c)) :=
 viaSeqS (fun k => spec_dTree.Z27 N h f g i a b c d e k) (by kernel_rfl) (f126t27 N u0 (K := seqK (fun σ => f126i N (f126c 3935) f126p28 σ (joinK (some f126l15) K)) (joinK (some f126l15) K)) ..) (fx8 fun f g m a b c d e => f126t28 N u0 f g m a b c d e K) (by kernel_rfl)
def f126p16 : Plan := .mk none none f126p17 f126p26
theorem f126t16 N u0 h f i g a b c d e (K : KT ρ) : f126i N (f126c 863) f126p16 (f126s6 u0 h f i g a b c d e) (joinK (some f126l15) K) =
  spec_dTree.Z16 N h f i g a b c d e (fun f a b c d e => K .nrm (f126s15 u0 f a b c d e)) (fun j l d e a b c => K .ret (f126s19 u0 j l d e a b c)) :=
 viaCondS (x := .tmp 65) (t := g) (by kernel_rfl) (f126t17 N u0 (K := K) ..) (f126t26 N u0 (K := K) ..) (by kernel_rfl)
def f126p14 : Plan := .mk (some f126l6) none .n f126p16
theorem f126t14 N u0 g f h a b c d e (K : KT ρ) : f126i N (f126c 351) f126p14 (f126s5 u0 g f h a b c d e) (joinK (some f126l15) K) =
  spec_dTree.Z14 N g f h a b c d e (fun f a b c d e => K .nrm (f126s15 u0 f a b c d e)) (fun i j d e a b c => K .ret (f126s19 u0 i j d e a b c)) :=
 viaSeqS (fun k => spec_dTree.Z15 N g f h a b c d e k) (by kernel_rfl) (f126t15 N u0 (K := seqK (fun σ => f126i N (f126c 863) f126p16 σ (joinK (some f126l15) K)) (joinK (some f126l15) K)) ..) (fx9 fun g f h l a b c d e => f126t16 N u0 g f h l a b c d e K) (by kernel_rfl)
def f126p13 : Plan := .mk (some f126l15) none f126p14 .n
theorem f126t13 N u0 g f h a b c d e (K : KT ρ) : f126i N (f126c 223) f126p13 (f126s5 u0 g f h a b c d e) (joinK (some f126l15) K) =
  spec_dTree.Z13 N g f h a b c d e (fun f a b c d e => K .nrm (f126s15 u0 f a b c d e)) (fun i j d e a b c => K .ret (f126s19 u0 i j d e a b c)) :=
 viaBlockS (by kernel_rfl) (f126t14 N u0 (K := blockK 0 (joinK (some f126l15) K)) ..) (by kernel_rfl)
def f126p11 : Plan := .mk (some f126l5) none .n f126p13
theorem f126t11 N u0 g f a b c d e (K : KT ρ) : f126i N (f126c 95) f126p11 (f126s4 u0 g f a b c d e) (joinK (some f126l15) K) =
  spec_dTree.Z11 N g f a b c d e (fun f a b c d e => K .nrm (f126s15 u0 f a b c d e)) (fun h i d e a b c => K .ret (f126s19 u0 h i d e a b c)) :=
 viaSeqS (fun k => spec_dTree.Z12 N g f a b c d e k) (by kernel_rfl) (f126t12 N u0 (K := seqK (fun σ => f126i N (f126c 223) f126p13 σ (joinK (some f126l15) K)) (joinK (some f126l15) K)) ..) (fx8 fun g f j a b c d e => f126t13 N u0 g f j a b c d e K) (by kernel_rfl)
theorem f126t48 N u0 a b c d e f (K : KT ρ) : f126i N (f126c 191) .n (f126s15 u0 a b c d e f) (joinK (some f126l16) K) =
 spec_dTree.Z48 N a b c d e f (fun g a b c d e f h i => K .nrm (f126s16 u0 g a b c d e f h i)) := by kernel_rfl
theorem f126t51 N u0 a b c d e f g h i (K : KT ρ) : f126i N (f126c 639) .n (f126s16 u0 a b c d e f g h i) (joinK (some f126l17) K) =
 spec_dTree.Z51 N a b c d e f g h i (fun a b j c d e f g h i => K .nrm (f126s17 u0 a b j c d e f g h i)) := by kernel_rfl
theorem f126t54 N u0 a b j c d e f g h i (K : KT ρ) : f126i N (f126c 2431) .n (f126s17 u0 a b j c d e f g h i) (joinK (some f126l17) K) =
 spec_dTree.Z54 N a b j c d e f g h i (fun a b j c d e f g h i => K .nrm (f126s17 u0 a b j c d e f g h i)) (fun a b f g h i c d e => K (.exit 5) (f126s18 u0 a b f g h i c d e)) := by kernel_rfl
def f126p53 : Plan := .mk none (some f126l17) .n .n
abbrev f126w53 {ρ : Type} (N M : Nat) (σ : St) (K : KT ρ) : Option ρ := loopC (fun σ K => f126i N (f126c 2431) .n σ K) f126l17 M σ K
theorem f126t53L {ρ : Type} (N : Nat) (u0 : Value) (K : KT ρ) : ∀ (M : Nat) (a : LI) (b j : Int) (c : List Int) (d e f g h i : Int), f126w53 N M (f126s17 u0 a b j c d e f g h i) K =
 spec_dTree.Z53L N (fun a b f g h i c d e => K (.exit 5) (f126s18 u0 a b f g h i c d e)) M a b j c d e f g h i
 | 0, _, _, _, _, _, _, _, _, _, _ => rfl
 | M + 1, a, b, j, c, d, e, f, g, h, i => viaRoundS (fun k => spec_dTree.Z54 N a b j c d e f g h i k (fun a b f g h i c d e => K (.exit 5) (f126s18 u0 a b f g h i c d e))) (f126t54 N u0 (K := seqK (fun σ => f126w53 N M σ K) K) ..) (fx10 fun a b j c d e f g h i => f126t53L N u0 K M a b j c d e f g h i) (by kernel_rfl)
theorem f126t53 N u0 a b j c d e f g h i (K : KT ρ) : f126i N (f126c 1407) f126p53 (f126s17 u0 a b j c d e f g h i) (joinK (some f126l18) K) =
  spec_dTree.Z53 N a b j c d e f g h i (fun a b f g h i c d e => K (.exit 5) (f126s18 u0 a b f g h i c d e)) :=
 viaLoopS (by kernel_rfl) (f126t53L N u0 (joinK (some f126l18) K) N a b j c d e f g h i) (by kernel_rfl)
def f126p52 : Plan := .mk (some f126l18) none f126p53 .n
theorem f126t52 N u0 a b j c d e f g h i (K : KT ρ) : f126i N (f126c 895) f126p52 (f126s17 u0 a b j c d e f g h i) (joinK (some f126l18) K) =
  spec_dTree.Z52 N a b j c d e f g h i (fun a b f g h i c d e => K .nrm (f126s18 u0 a b f g h i c d e)) :=
 viaBlockS (by kernel_rfl) (f126t53 N u0 (K := blockK 5 (joinK (some f126l18) K)) ..) (by kernel_rfl)
def f126p50 : Plan := .mk (some f126l17) none .n f126p52
theorem f126t50 N u0 a b c d e f g h i (K : KT ρ) : f126i N (f126c 383) f126p50 (f126s16 u0 a b c d e f g h i) (joinK (some f126l18) K) =
  spec_dTree.Z50 N a b c d e f g h i (fun a b f g h i c d e => K .nrm (f126s18 u0 a b f g h i c d e)) :=
 viaSeqS (fun k => spec_dTree.Z51 N a b c d e f g h i k) (by kernel_rfl) (f126t51 N u0 (K := seqK (fun σ => f126i N (f126c 895) f126p52 σ (joinK (some f126l18) K)) (joinK (some f126l18) K)) ..) (fx10 fun a b j c d e f g h i => f126t52 N u0 a b j c d e f g h i K) (by kernel_rfl)
theorem f126t55 N u0 f g a b h i c d e (K : KT ρ) : f126i N (f126c 511) .n (f126s18 u0 f g a b h i c d e) (joinK (some f126lE) K) =
 spec_dTree.Z55 N f g a b h i c d e (fun j l a b c d e => K .ret (f126s19 u0 j l a b c d e)) := by kernel_rfl
def f126p49 : Plan := .mk (some f126l18) none f126p50 .n
theorem f126t49 N u0 f g a b c d e h i (K : KT ρ) : f126i N (f126c 255) f126p49 (f126s16 u0 f g a b c d e h i) (joinK (some f126lE) K) =
  spec_dTree.Z49 N f g a b c d e h i (fun j l d e a b c => K .ret (f126s19 u0 j l d e a b c)) :=
 viaSeqS (fun k => spec_dTree.Z50 N f g a b c d e h i k) (by kernel_rfl) (f126t50 N u0 (K := seqK (fun σ => f126i N (f126c 511) .n σ (joinK (some f126lE) K)) (joinK (some f126lE) K)) ..) (fx9 fun f g d e h i a b c => f126t55 N u0 f g d e h i a b c K) (by kernel_rfl)
def f126p47 : Plan := .mk (some f126l16) none .n f126p49
theorem f126t47 N u0 f a b c d e (K : KT ρ) : f126i N (f126c 127) f126p47 (f126s15 u0 f a b c d e) (joinK (some f126lE) K) =
  spec_dTree.Z47 N f a b c d e (fun g h d e a b c => K .ret (f126s19 u0 g h d e a b c)) :=
 viaSeqS (fun k => spec_dTree.Z48 N f a b c d e k) (by kernel_rfl) (f126t48 N u0 (K := seqK (fun σ => f126i N (f126c 255) f126p49 σ (joinK (some f126lE) K)) (joinK (some f126lE) K)) ..) (fx9 fun i f a b c d e j l => f126t49 N u0 i f a b c d e j l K) (by kernel_rfl)
def f126p10 : Plan := .mk (some f126l15) none f126p11 f126p47
theorem f126t10 N u0 g f a b c d e (K : KT ρ) : f126i N (f126c 63) f126p10 (f126s4 u0 g f a b c d e) (joinK (some f126lE) K) =
  spec_dTree.Z10 N g f a b c d e (fun h i d e a b c => K .ret (f126s19 u0 h i d e a b c)) :=
 viaSeqS (fun k => spec_dTree.Z11 N g f a b c d e k (fun h i d e a b c => K .ret (f126s19 u0 h i d e a b c))) (by kernel_rfl) (f126t11 N u0 (K := seqK (fun σ => f126i N (f126c 127) f126p47 σ (joinK (some f126lE) K)) (joinK (some f126lE) K)) ..) (fx6 fun f a b c d e => f126t47 N u0 f a b c d e K) (by kernel_rfl)
def f126p8 : Plan := .mk (some f126l4) none .n f126p10
theorem f126t8 N u0 h f g a b c d e (K : KT ρ) : f126i N (f126c 31) f126p8 (f126s3 u0 h f g a b c d e) (joinK (some f126lE) K) =
  spec_dTree.Z8 N h f g a b c d e (fun i j d e a b c => K .ret (f126s19 u0 i j d e a b c)) :=
 viaSeqS (fun k => spec_dTree.Z9 N h f g a b c d e k) (by kernel_rfl) (f126t9 N u0 (K := seqK (fun σ => f126i N (f126c 63) f126p10 σ (joinK (some f126lE) K)) (joinK (some f126lE) K)) ..) (fx7 fun f g a b c d e => f126t10 N u0 f g a b c d e K) (by kernel_rfl)
def f126p6 : Plan := .mk (some f126l3) none .n f126p8
theorem f126t6 N u0 f g h a b c d e (K : KT ρ) : f126i N (f126c 15) f126p6 (f126s3 u0 f g h a b c d e) (joinK (some f126lE) K) =
  spec_dTree.Z6 N f g h a b c d e (fun i j d e a b c => K .ret (f126s19 u0 i j d e a b c)) :=
 viaSeqS (fun k => spec_dTree.Z7 N f g h a b c d e k) (by kernel_rfl) (f126t7 N u0 (K := seqK (fun σ => f126i N (f126c 31) f126p8 σ (joinK (some f126lE) K)) (joinK (some f126lE) K)) ..) (fx8 fun f g h a b c d e => f126t8 N u0 f g h a b c d e K) (by kernel_rfl)
def f126p4 : Plan := .mk (some f126l3) none .n f126p6
theorem f126t4 N u0 f g a b c d e (K : KT ρ) : f126i N (f126c 7) f126p4 (f126s2 u0 f g a b c d e) (joinK (some f126lE) K) =
  spec_dTree.Z4 N f g a b c d e (fun h i d e a b c => K .ret (f126s19 u0 h i d e a b c)) :=
 viaSeqS (fun k => spec_dTree.Z5 N f g a b c d e k) (by kernel_rfl) (f126t5 N u0 (K := seqK (fun σ => f126i N (f126c 15) f126p6 σ (joinK (some f126lE) K)) (joinK (some f126lE) K)) ..) (fx8 fun f g j a b c d e => f126t6 N u0 f g j a b c d e K) (by kernel_rfl)
def f126p2 : Plan := .mk (some f126l2) none .n f126p4
theorem f126t2 N u0 f a b c d e (K : KT ρ) : f126i N (f126c 3) f126p2 (f126s1 u0 f a b c d e) (joinK (some f126lE) K) =
  spec_dTree.Z2 N f a b c d e (fun g h d e a b c => K .ret (f126s19 u0 g h d e a b c)) :=
 viaSeqS (fun k => spec_dTree.Z3 N f a b c d e k) (by kernel_rfl) (f126t3 N u0 (K := seqK (fun σ => f126i N (f126c 7) f126p4 σ (joinK (some f126lE) K)) (joinK (some f126lE) K)) ..) (fx7 fun f i a b c d e => f126t4 N u0 f i a b c d e K) (by kernel_rfl)
def f126p0 : Plan := .mk (some f126l1) none .n f126p2
theorem f126t0 N u0 b0 r0 a (K : KT ρ) : f126i N (f126c 1) f126p0 (f126s0 u0 b0 r0 a) (joinK (some f126lE) K) =
  spec_dTree.Z0 N b0 r0 a (fun g h b c d e f => K .ret (f126s19 u0 g h b c d e f)) :=
 viaSeqS (fun k => spec_dTree.Z1 N b0 r0 a k) (by kernel_rfl) (f126t1 N u0 (K := seqK (fun σ => f126i N (f126c 3) f126p2 σ (joinK (some f126lE) K)) (joinK (some f126lE) K)) ..) (fx6 fun a d e f b c => f126t2 N u0 a d e f b c K) (by kernel_rfl)
theorem f126m (N : Nat) (u0 : Value) (b0 : List Int) (r0 : Int × Int) (a : Int) : f126i N (f126c 1) f126p0 (f126s0 u0 b0 r0 a) (joinK (some f126lE) (finKV tab f126k f126ps true f126rs Try.f126.results.toList)) = spec_dTree.Z0 N b0 r0 a (fun b c d e h f g => some ([u0], ((f, g), ((), ((d, (e, b)), (c, ())))))) :=
 (f126t0 N u0 b0 r0 a (finKV tab f126k f126ps true f126rs Try.f126.results.toList)).trans (by kernel_rfl)
theorem f126ok (h : spec_dTree.Spec) : EntryVOk Try.prog 126 e126 :=
 entryV_of_code (k := f126k) (ps := f126ps) (rs := f126rs) (back := true) (c := (f126c 1)) (pl := f126p0) (je := (some f126lE)) (B := f126B) Try.func126 (by kernel_rfl) (by kernel_rfl) (by kernel_rfl) tabOk f126GOk (by kernel_rfl) (by kernel_rfl) (by kernel_rfl) fun lit X hl hb1 hb2 hp => by
  obtain ⟨⟨⟨b0, _⟩, r0⟩, a, _⟩ := X
  match lit, hl with
  | [u0], _ =>
   obtain ⟨N, h⟩ := h [u0] b0 r0 a hb1.1 hp
   exact ⟨N, (f126m N u0 b0 r0 a).trans (h N (Nat.le_refl N))⟩
theorem e126ok : EntryVOk Try.prog 126 e126 := f126ok spec_dTree.ok
end Go.Fw
namespace Go.Fw
variable {ρ : Type}
open Go.Proofs
def f72sig : Sig := ⟨[⟨.int .i64, false, false⟩, ⟨.int .i64, false, false⟩, ⟨.int .i64, false, false⟩], [⟨.bool, false, false⟩]⟩
def e72 : Entry := ⟨f72sig, none, fun X => ((), ((spec_l1In.g X.1 X.2.1 X.2.2.1), ()))⟩
def f72G : Gm := emptyG
theorem f72GOk : GOk Try.prog f72G := GOk.nil
def f72lE : Clean := ⟨[], [], [], [], []⟩
def f72s0 (a b c : Int) : St := initSt f72sig.ps (a, (b, (c, ())))
def f72s1 (a : Bool) : St := stOf [(6, xB a)] [] []
def f72l1 : Clean := ⟨[6], [], [], [], []⟩
def f72B : Nat → Option Clean := lookL [(1000000, f72l1)]
abbrev f72i {ρ : Type} (N : Nat) (c : Code) (p : Plan) (σ : St) (K : KT ρ) : Option ρ := iCode f72G tab f72B N c p σ K
def f72c (n : Nat) : Code := codeN 99 (bodyOf Try.f72) n
theorem f72t0 N a b c (K : KT ρ) : f72i N (f72c 1) .n (f72s0 a b c) (joinK (some f72lE) K) =
 spec_l1In.Z0 N a b c (fun d => K .ret (f72s1 d)) := by kernel_rfl
theorem f72m (N : Nat) (a b c : Int) : f72i N (f72c 1) .n (f72s0 a b c) (joinK (some f72lE) (finK tab f72sig Try.f72.results.toList)) = spec_l1In.Z0 N a b c (fun d => some ((), (d, ()))) :=
 (f72t0 N a b c (finK tab f72sig Try.f72.results.toList)).trans (by kernel_rfl)
theorem f72ok (h : spec_l1In.Spec) : EntryOk Try.prog 72 e72 :=
 entry_of_code (sig := f72sig) (c := (f72c 1)) (pl := .n) (je := (some f72lE)) (B := f72B) Try.func72 (by kernel_rfl) (by kernel_rfl) (by kernel_rfl) tabOk f72GOk (by kernel_rfl) (by kernel_rfl) (by kernel_rfl) (by kernel_rfl) fun X hb hp => by
  obtain ⟨a, b, d, _⟩ := X
  obtain ⟨N, h⟩ := h a b d
  exact ⟨N, (f72m N a b d).trans (h N (Nat.le_refl N))⟩
theorem e72ok : EntryOk Try.prog 72 e72 := f72ok spec_l1In.ok
end Go.Fw
namespace Go.Fw
variable {ρ : Type}
open Go.Proofs
def f80sig : Sig := ⟨[⟨.pair (.int .i64) (.pair (.int .i64) (.sl 3 (.int .i64))), true, false⟩, ⟨.int .i64, false, false⟩, ⟨.int .i64, false, false⟩], [⟨.int .i64, false, false⟩]⟩
def e80 : Entry := ⟨f80sig, (some fun X => spec_l1At.P X.1 X.2.1 X.2.2.1), fun X => ((), ((spec_l1At.g X.1 X.2.1 X.2.2.1), ()))⟩
def f80G : Gm := emptyG
theorem f80GOk : GOk Try.prog f80G := GOk.nil
def f80lE : Clean := ⟨[], [], [], [], []⟩
def f80s0 (a : MT) (b c : Int) : St := initSt f80sig.ps (a, (b, (c, ())))
def f80s1 (a : Int) : St := stOf [(6, xi a)] [] []
def f80l1 : Clean := ⟨[6], [], [], [], []⟩
def f80B : Nat → Option Clean := lookL [(1000000, f80l1)]
abbrev f80i {ρ : Type} (N : Nat) (c : Code) (p : Plan) (σ : St) (K : KT ρ) : Option ρ := iCode f80G tab f80B N c p σ K
def f80c (n : Nat) : Code := codeN 99 (bodyOf Try.f80) n
theorem f80t0 N a b c (K : KT ρ) : f80i N (f80c 1) .n (f80s0 a b c) (joinK (some f80lE) K) =
 spec_l1At.Z0 N a b c (fun d => K .ret (f80s1 d)) := by kernel_rfl
theorem f80m (N : Nat) (a : MT) (b c : Int) : f80i N (f80c 1) .n (f80s0 a b c) (joinK (some f80lE) (finK tab f80sig Try.f80.results.toList)) = spec_l1At.Z0 N a b c (fun d => some ((), (d, ()))) :=
 (f80t0 N a b c (finK tab f80sig Try.f80.results.toList)).trans (by kernel_rfl)
theorem f80ok (h : spec_l1At.Spec) : EntryOk Try.prog 80 e80 :=
 entry_of_code (sig := f80sig) (c := (f80c 1)) (pl := .n) (je := (some f80lE)) (B := f80B) Try.func80 (by kernel_rfl) (by kernel_rfl) (by kernel_rfl) tabOk f80GOk (by kernel_rfl) (by kernel_rfl) (by kernel_rfl) (by kernel_rfl) fun X hb hp => by
  obtain ⟨a, b, d, _⟩ := X
  obtain ⟨N, h⟩ := h a b d hb.1 hp
  exact ⟨N, (f80m N a b d).trans (h N (Nat.le_refl N))⟩
theorem e80ok : EntryOk Try.prog 80 e80 := f80ok spec_l1At.ok
end Go.Fw
namespace Go.Fw
variable {ρ : Type}
open Go.Proofs
def f74sig : Sig := ⟨[⟨.pair (.int .i64) (.pair (.int .i64) (.sl 3 (.int .i64))), true, false⟩], [⟨.bool, false, false⟩]⟩
def e74 : Entry := ⟨f74sig, none, fun X => ((), ((spec_l1Sizes.g X.1), ()))⟩
def f74G : Gm := addG (addG emptyG 72 e72) 80 e80
theorem f74GOk : GOk Try.prog f74G := ((GOk.nil).add e72ok (by kernel_rfl)).add e80ok (by kernel_rfl)
def f74lE : Clean := ⟨[], [], [], [], []⟩
def f74s0 (a : MT) : St := initSt f74sig.ps (a, ())
def f74s1 (a b : Int) (c : LI) : St := stOf [(1, xb 1)] [(1, (30, [yi a, yi b, .sn 3 tI c none]))] []
def f74l1 : Clean := ⟨[1], [1], [], [], []⟩
def f74s2 (a b c : Int) (d : LI) : St := stOf [(1, xb 1), (3, xi a)] [(1, (30, [yi b, yi c, .sn 3 tI d none]))] []
def f74l2 : Clean := ⟨[1, 3], [1], [], [], []⟩
def f74s3 (a b c : Int) (d : LI) : St := stOf [(1, xb 1), (4, xi a)] [(1, (30, [yi b, yi c, .sn 3 tI d none]))] []
def f74l3 : Clean := ⟨[1, 4], [1], [], [], []⟩
def f74s4 (a b c d : Int) (e : LI) : St := stOf [(1, xb 1), (4, xi a), (5, xi b)] [(1, (30, [yi c, yi d, .sn 3 tI e none]))] []
def f74l4 : Clean := ⟨[1, 4, 5], [1], [], [], []⟩
def f74s5  : St := stOf [] [] []
def f74l5 : Clean := ⟨[], [], [], [], []⟩
def f74s6 (a : Bool) : St := stOf [(2, xB a)] [] []
def f74l6 : Clean := ⟨[2], [], [], [], []⟩
def f74B : Nat → Option Clean := lookL [(0, f74l1), (4, f74l3), (3, f74l3), (2, f74l5), (1000000, f74l6)]
abbrev f74i {ρ : Type} (N : Nat) (c : Code) (p : Plan) (σ : St) (K : KT ρ) : Option ρ := iCode f74G tab f74B N c p σ K
def f74c (n : Nat) : Code := codeN 99 (bodyOf Try.f74) n
theorem f74t1 N a (K : KT ρ) : f74i N (f74c 2) .n (f74s0 a) (joinK (some f74l1) K) =
 spec_l1Sizes.Z1 N a (fun b c d => K .nrm (f74s1 b c d)) := by kernel_rfl
theorem f74t3 N a b c (K : KT ρ) : f74i N (f74c 5) .n (f74s1 a b c) (joinK (some f74l1) K) =
 spec_l1Sizes.Z3 N a b c (fun a b c => K .nrm (f74s1 a b c)) (fun d => K .ret (f74s6 d)) := by kernel_rfl
theorem f74t6 N a b c (K : KT ρ) : f74i N (f74c 19) .n (f74s1 a b c) (joinK (some f74l2) K) =
 spec_l1Sizes.Z6 N a b c (fun d a b c => K .nrm (f74s2 d a b c)) := by kernel_rfl
theorem f74t9 N d a b c (K : KT ρ) : f74i N (f74c 75) .n (f74s2 d a b c) (joinK (some f74l2) K) =
 spec_l1Sizes.Z9 N d a b c (fun d a b c => K .nrm (f74s2 d a b c)) (fun a b c => K (.exit 0) (f74s1 a b c)) (fun e => K .ret (f74s6 e)) := by kernel_rfl
def f74p8 : Plan := .mk none (some f74l2) .n .n
abbrev f74w8 {ρ : Type} (N M : Nat) (σ : St) (K : KT ρ) : Option ρ := loopC (fun σ K => f74i N (f74c 75) .n σ K) f74l2 M σ K
theorem f74t8L {ρ : Type} (N : Nat) (K : KT ρ) : ∀ (M : Nat) (d a b : Int) (c : LI), f74w8 N M (f74s2 d a b c) K =
 spec_l1Sizes.Z8L N (fun a b c => K (.exit 0) (f74s1 a b c)) (fun e => K .ret (f74s6 e)) M d a b c
 | 0, _, _, _, _ => rfl
 | M + 1, d, a, b, c => viaRoundS (fun k => spec_l1Sizes.Z9 N d a b c k (fun a b c => K (.exit 0) (f74s1 a b c)) (fun e => K .ret (f74s6 e))) (f74t9 N (K := seqK (fun σ => f74w8 N M σ K) K) ..) (fx4 fun d a b c => f74t8L N K M d a b c) (by kernel_rfl)
theorem f74t8 N d a b c (K : KT ρ) : f74i N (f74c 43) f74p8 (f74s2 d a b c) (joinK (some f74l1) K) =
  spec_l1Sizes.Z8 N d a b c (fun a b c => K (.exit 0) (f74s1 a b c)) (fun e => K .ret (f74s6 e)) :=
 viaLoopS (by kernel_rfl) (f74t8L N (joinK (some f74l1) K) N d a b c) (by kernel_rfl)
def f74p7 : Plan := .mk (some f74l1) none f74p8 .n
theorem f74t7 N d a b c (K : KT ρ) : f74i N (f74c 27) f74p7 (f74s2 d a b c) (joinK (some f74l1) K) =
  spec_l1Sizes.Z7 N d a b c (fun a b c => K .nrm (f74s1 a b c)) (fun e => K .ret (f74s6 e)) :=
 viaBlockS (by kernel_rfl) (f74t8 N (K := blockK 0 (joinK (some f74l1) K)) ..) (by kernel_rfl)
def f74p5 : Plan := .mk (some f74l2) none .n f74p7
theorem f74t5 N a b c (K : KT ρ) : f74i N (f74c 11) f74p5 (f74s1 a b c) (joinK (some f74l1) K) =
  spec_l1Sizes.Z5 N a b c (fun a b c => K .nrm (f74s1 a b c)) (fun d => K .ret (f74s6 d)) :=
 viaSeqS (fun k => spec_l1Sizes.Z6 N a b c k) (by kernel_rfl) (f74t6 N (K := seqK (fun σ => f74i N (f74c 27) f74p7 σ (joinK (some f74l1) K)) (joinK (some f74l1) K)) ..) (fx4 fun e a b c => f74t7 N e a b c K) (by kernel_rfl)
theorem f74t12 N a b c (K : KT ρ) : f74i N (f74c 39) .n (f74s1 a b c) (joinK (some f74l3) K) =
 spec_l1Sizes.Z12 N a b c (fun d a b c => K .nrm (f74s3 d a b c)) := by kernel_rfl
theorem f74t16 N a b c d (K : KT ρ) : f74i N (f74c 279) .n (f74s3 a b c d) (joinK (some f74l3) K) =
 spec_l1Sizes.Z16 N a b c d (fun a b c d => K .nrm (f74s3 a b c d)) (K (.exit 2) f74s5) := by kernel_rfl
theorem f74t20 N a b c d (K : KT ρ) : f74i N (f74c 2199) .n (f74s3 a b c d) (joinK (some f74l4) K) =
 spec_l1Sizes.Z20 N a b c d (fun a e b c d => K .nrm (f74s4 a e b c d)) := by kernel_rfl
theorem f74t23 N a e b c d (K : KT ρ) : f74i N (f74c 9367) .n (f74s4 a e b c d) (joinK (some f74l4) K) =
 spec_l1Sizes.Z23 N a e b c d (fun a e b c d => K .nrm (f74s4 a e b c d)) (fun a b c d => K (.exit 4) (f74s3 a b c d)) (fun f => K .ret (f74s6 f)) := by kernel_rfl
def f74p22 : Plan := .mk none (some f74l4) .n .n
abbrev f74w22 {ρ : Type} (N M : Nat) (σ : St) (K : KT ρ) : Option ρ := loopC (fun σ K => f74i N (f74c 9367) .n σ K) f74l4 M σ K
theorem f74t22L {ρ : Type} (N : Nat) (K : KT ρ) : ∀ (M : Nat) (a e b c : Int) (d : LI), f74w22 N M (f74s4 a e b c d) K =
 spec_l1Sizes.Z22L N (fun a b c d => K (.exit 4) (f74s3 a b c d)) (fun f => K .ret (f74s6 f)) M a e b c d
 | 0, _, _, _, _, _ => rfl
 | M + 1, a, e, b, c, d => viaRoundS (fun k => spec_l1Sizes.Z23 N a e b c d k (fun a b c d => K (.exit 4) (f74s3 a b c d)) (fun f => K .ret (f74s6 f))) (f74t23 N (K := seqK (fun σ => f74w22 N M σ K) K) ..) (fx5 fun a e b c d => f74t22L N K M a e b c d) (by kernel_rfl)
theorem f74t22 N a e b c d (K : KT ρ) : f74i N (f74c 5271) f74p22 (f74s4 a e b c d) (joinK (some f74l3) K) =
  spec_l1Sizes.Z22 N a e b c d (fun a b c d => K (.exit 4) (f74s3 a b c d)) (fun f => K .ret (f74s6 f)) :=
 viaLoopS (by kernel_rfl) (f74t22L N (joinK (some f74l3) K) N a e b c d) (by kernel_rfl)
def f74p21 : Plan := .mk (some f74l3) none f74p22 .n
theorem f74t21 N a e b c d (K : KT ρ) : f74i N (f74c 3223) f74p21 (f74s4 a e b c d) (joinK (some f74l3) K) =
  spec_l1Sizes.Z21 N a e b c d (fun a b c d => K .nrm (f74s3 a b c d)) (fun f => K .ret (f74s6 f)) :=
 viaBlockS (by kernel_rfl) (f74t22 N (K := blockK 4 (joinK (some f74l3) K)) ..) (by kernel_rfl)
def f74p19 : Plan := .mk (some f74l4) none .n f74p21
theorem f74t19 N a b c d (K : KT ρ) : f74i N (f74c 1175) f74p19 (f74s3 a b c d) (joinK (some f74l3) K) =
  spec_l1Sizes.Z19 N a b c d (fun a b c d => K .nrm (f74s3 a b c d)) (fun e => K .ret (f74s6 e)) :=
 viaSeqS (fun k => spec_l1Sizes.Z20 N a b c d k) (by kernel_rfl) (f74t20 N (K := seqK (fun σ => f74i N (f74c 3223) f74p21 σ (joinK (some f74l3) K)) (joinK (some f74l3) K)) ..) (fx5 fun a f b c d => f74t21 N a f b c d K) (by kernel_rfl)
def f74p18 : Plan := .mk (some f74l3) none f74p19 .n
theorem f74t18 N a b c d (K : KT ρ) : f74i N (f74c 663) f74p18 (f74s3 a b c d) (joinK (some f74l3) K) =
  spec_l1Sizes.Z18 N a b c d (fun a b c d => K .nrm (f74s3 a b c d)) (fun e => K .ret (f74s6 e)) :=
 viaBlockS (by kernel_rfl) (f74t19 N (K := blockK 3 (joinK (some f74l3) K)) ..) (by kernel_rfl)
theorem f74t24 N a b c d (K : KT ρ) : f74i N (f74c 919) .n (f74s3 a b c d) (joinK (some f74l3) K) =
 spec_l1Sizes.Z24 N a b c d (fun a b c d => K .nrm (f74s3 a b c d)) := by kernel_rfl
def f74p17 : Plan := .mk (some f74l3) none f74p18 .n
theorem f74t17 N a b c d (K : KT ρ) : f74i N (f74c 407) f74p17 (f74s3 a b c d) (joinK (some f74l3) K) =
  spec_l1Sizes.Z17 N a b c d (fun a b c d => K .nrm (f74s3 a b c d)) (fun e => K .ret (f74s6 e)) :=
 viaSeqS (fun k => spec_l1Sizes.Z18 N a b c d k (fun e => K .ret (f74s6 e))) (by kernel_rfl) (f74t18 N (K := seqK (fun σ => f74i N (f74c 919) .n σ (joinK (some f74l3) K)) (joinK (some f74l3) K)) ..) (fx4 fun a b c d => f74t24 N a b c d K) (by kernel_rfl)
def f74p15 : Plan := .mk (some f74l3) none .n f74p17
theorem f74t15 N a b c d (K : KT ρ) : f74i N (f74c 151) f74p15 (f74s3 a b c d) (joinK (some f74l3) K) =
  spec_l1Sizes.Z15 N a b c d (fun a b c d => K .nrm (f74s3 a b c d)) (K (.exit 2) f74s5) (fun e => K .ret (f74s6 e)) :=
 viaSeqS (fun k => spec_l1Sizes.Z16 N a b c d k (K (.exit 2) f74s5)) (by kernel_rfl) (f74t16 N (K := seqK (fun σ => f74i N (f74c 407) f74p17 σ (joinK (some f74l3) K)) (joinK (some f74l3) K)) ..) (fx4 fun a b c d => f74t17 N a b c d K) (by kernel_rfl)
def f74p14 : Plan := .mk none (some f74l3) f74p15 .n
abbrev f74w14 {ρ : Type} (N M : Nat) (σ : St) (K : KT ρ) : Option ρ := loopC (fun σ K => f74i N (f74c 151) f74p15 σ K) f74l3 M σ K
theorem f74t14L {ρ : Type} (N : Nat) (K : KT ρ) : ∀ (M : Nat) (a b c : Int) (d : LI), f74w14 N M (f74s3 a b c d) K =
 spec_l1Sizes.Z14L N (K (.exit 2) f74s5) (fun e => K .ret (f74s6 e)) M a b c d
 | 0, _, _, _, _ => rfl
 | M + 1, a, b, c, d => viaRoundS (fun k => spec_l1Sizes.Z15 N a b c d k (K (.exit 2) f74s5) (fun e => K .ret (f74s6 e))) (f74t15 N (K := seqK (fun σ => f74w14 N M σ K) K) ..) (fx4 fun a b c d => f74t14L N K M a b c d) (by kernel_rfl)
theorem f74t14 N a b c d (K : KT ρ) : f74i N (f74c 87) f74p14 (f74s3 a b c d) (joinK (some f74l5) K) =
  spec_l1Sizes.Z14 N a b c d (K (.exit 2) f74s5) (fun e => K .ret (f74s6 e)) :=
 viaLoopS (by kernel_rfl) (f74t14L N (joinK (some f74l5) K) N a b c d) (by kernel_rfl)
def f74p13 : Plan := .mk (some f74l5) none f74p14 .n
theorem f74t13 N a b c d (K : KT ρ) : f74i N (f74c 55) f74p13 (f74s3 a b c d) (joinK (some f74l5) K) =
  spec_l1Sizes.Z13 N a b c d (K .nrm f74s5) (fun e => K .ret (f74s6 e)) :=
 viaBlockS (by kernel_rfl) (f74t14 N (K := blockK 2 (joinK (some f74l5) K)) ..) (by kernel_rfl)
def f74p11 : Plan := .mk (some f74l3) none .n f74p13
theorem f74t11 N a b c (K : KT ρ) : f74i N (f74c 23) f74p11 (f74s1 a b c) (joinK (some f74l5) K) =
  spec_l1Sizes.Z11 N a b c (K .nrm f74s5) (fun d => K .ret (f74s6 d)) :=
 viaSeqS (fun k => spec_l1Sizes.Z12 N a b c k) (by kernel_rfl) (f74t12 N (K := seqK (fun σ => f74i N (f74c 55) f74p13 σ (joinK (some f74l5) K)) (joinK (some f74l5) K)) ..) (fx4 fun e a b c => f74t13 N e a b c K) (by kernel_rfl)
theorem f74t25 N  (K : KT ρ) : f74i N (f74c 31) .n f74s5 (joinK (some f74lE) K) =
 spec_l1Sizes.Z25 N (fun a => K .ret (f74s6 a)) := by kernel_rfl
def f74p10 : Plan := .mk (some f74l5) none f74p11 .n
theorem f74t10 N a b c (K : KT ρ) : f74i N (f74c 15) f74p10 (f74s1 a b c) (joinK (some f74lE) K) =
  spec_l1Sizes.Z10 N a b c (fun d => K .ret (f74s6 d)) :=
 viaSeqS (fun k => spec_l1Sizes.Z11 N a b c k (fun d => K .ret (f74s6 d))) (by kernel_rfl) (f74t11 N (K := seqK (fun σ => f74i N (f74c 31) .n σ (joinK (some f74lE) K)) (joinK (some f74lE) K)) ..) (f74t25 N K) (by kernel_rfl)
def f74p4 : Plan := .mk (some f74l1) none f74p5 f74p10
theorem f74t4 N a b c (K : KT ρ) : f74i N (f74c 7) f74p4 (f74s1 a b c) (joinK (some f74lE) K) =
  spec_l1Sizes.Z4 N a b c (fun d => K .ret (f74s6 d)) :=
 viaSeqS (fun k => spec_l1Sizes.Z5 N a b c k (fun d => K .ret (f74s6 d))) (by kernel_rfl) (f74t5 N (K := seqK (fun σ => f74i N (f74c 15) f74p10 σ (joinK (some f74lE) K)) (joinK (some f74lE) K)) ..) (fx3 fun a b c => f74t10 N a b c K) (by kernel_rfl)
def f74p2 : Plan := .mk (some f74l1) none .n f74p4
theorem f74t2 N a b c (K : KT ρ) : f74i N (f74c 3) f74p2 (f74s1 a b c) (joinK (some f74lE) K) =
  spec_l1Sizes.Z2 N a b c (fun d => K .ret (f74s6 d)) :=
 viaSeqS (fun k => spec_l1Sizes.Z3 N a b c k (fun d => K .ret (f74s6 d))) (by kernel_rfl) (f74t3 N (K := seqK (fun σ => f74i N (f74c 7) f74p4 σ (joinK (some f74lE) K)) (joinK (some f74lE) K)) ..) (fx3 fun a b c => f74t4 N a b c K) (by kernel_rfl)
def f74p0 : Plan := .mk (some f74l1) none .n f74p2
theorem f74t0 N a (K : KT ρ) : f74i N (f74c 1) f74p0 (f74s0 a) (joinK (some f74lE) K) =
  spec_l1Sizes.Z0 N a (fun b => K .ret (f74s6 b)) :=
 viaSeqS (fun k => spec_l1Sizes.Z1 N a k) (by kernel_rfl) (f74t1 N (K := seqK (fun σ => f74i N (f74c 3) f74p2 σ (joinK (some f74lE) K)) (joinK (some f74lE) K)) ..) (fx3 fun c d e => f74t2 N c d e K) (by kernel_rfl)
theorem f74m (N : Nat) (a : MT) : f74i N (f74c 1) f74p0 (f74s0 a) (joinK (some f74lE) (finK tab f74sig Try.f74.results.toList)) = spec_l1Sizes.Z0 N a (fun b => some ((), (b, ()))) :=
 (f74t0 N a (finK tab f74sig Try.f74.results.toList)).trans (by kernel_rfl)
theorem f74ok (h : spec_l1Sizes.Spec) : EntryOk Try.prog 74 e74 :=
 entry_of_code (sig := f74sig) (c := (f74c 1)) (pl := f74p0) (je := (some f74lE)) (B := f74B) Try.func74 (by kernel_rfl) (by kernel_rfl) (by kernel_rfl) tabOk f74GOk (by kernel_rfl) (by kernel_rfl) (by kernel_rfl) (by kernel_rfl) fun X hb hp => by
  obtain ⟨a, _⟩ := X
  obtain ⟨N, h⟩ := h a hb.1
  exact ⟨N, (f74m N a).trans (h N (Nat.le_refl N))⟩
theorem e74ok : EntryOk Try.prog 74 e74 := f74ok spec_l1Sizes.ok
end Go.Fw
namespace Go.Fw
variable {ρ : Type}
open Go.Proofs
def f129sig : Sig := ⟨[⟨.sl 3 (.int .i64), false, false⟩, ⟨.int .i64, false, false⟩], [⟨.bool, false, false⟩]⟩
def e129 : Entry := ⟨f129sig, none, fun X => ((), ((spec_l1Has.g X.1 X.2.1), ()))⟩
def f129G : Gm := emptyG
theorem f129GOk : GOk Try.prog f129G := GOk.nil
def f129lE : Clean := ⟨[], [], [], [], []⟩
def f129s0 (a : LI) (b : Int) : St := initSt f129sig.ps (a, (b, ()))
def f129s1 (a : LI) (b : Int) : St := stOf [(0, .c (.sn 3 tI a none)), (1, xi b)] [] []
def f129l1 : Clean := ⟨[0, 1], [], [], [], []⟩
def f129s2 (a : LI) (b d : Int) : St := stOf [(0, .c (.sn 3 tI a none)), (1, xi b), (5, xi d)] [] []
def f129l2 : Clean := ⟨[0, 1, 5], [], [], [], []⟩
def f129s3  : St := stOf [] [] []
def f129l3 : Clean := ⟨[], [], [], [], []⟩
def f129s4 (a : Bool) : St := stOf [(4, xB a)] [] []
def f129l4 : Clean := ⟨[4], [], [], [], []⟩
def f129B : Nat → Option Clean := lookL [(0, f129l3), (1000000, f129l4)]
abbrev f129i {ρ : Type} (N : Nat) (c : Code) (p : Plan) (σ : St) (K : KT ρ) : Option ρ := iCode f129G tab f129B N c p σ K
def f129c (n : Nat) : Code := codeN 99 (bodyOf Try.f129) n
theorem f129t1 N a b (K : KT ρ) : f129i N (f129c 2) .n (f129s0 a b) (joinK (some f129l1) K) =
 spec_l1Has.Z1 N a b (fun a b => K .nrm (f129s1 a b)) := by kernel_rfl
theorem f129t4 N a b (K : KT ρ) : f129i N (f129c 9) .n (f129s1 a b) (joinK (some f129l2) K) =
 spec_l1Has.Z4 N a b (fun a b c => K .nrm (f129s2 a b c)) := by kernel_rfl
theorem f129t7 N a b c (K : KT ρ) : f129i N (f129c 37) .n (f129s2 a b c) (joinK (some f129l2) K) =
 spec_l1Has.Z7 N a b c (fun a b c => K .nrm (f129s2 a b c)) (K (.exit 0) f129s3) (fun d => K .ret (f129s4 d)) := by kernel_rfl
def f129p6 : Plan := .mk none (some f129l2) .n .n
abbrev f129w6 {ρ : Type} (N M : Nat) (σ : St) (K : KT ρ) : Option ρ := loopC (fun σ K => f129i N (f129c 37) .n σ K) f129l2 M σ K
theorem f129t6L {ρ : Type} (N : Nat) (K : KT ρ) : ∀ (M : Nat) (a : LI) (b c : Int), f129w6 N M (f129s2 a b c) K =
 spec_l1Has.Z6L N (K (.exit 0) f129s3) (fun d => K .ret (f129s4 d)) M a b c
 | 0, _, _, _ => rfl
 | M + 1, a, b, c => viaRoundS (fun k => spec_l1Has.Z7 N a b c k (K (.exit 0) f129s3) (fun d => K .ret (f129s4 d))) (f129t7 N (K := seqK (fun σ => f129w6 N M σ K) K) ..) (fx3 fun a b c => f129t6L N K M a b c) (by kernel_rfl)
theorem f129t6 N a b c (K : KT ρ) : f129i N (f129c 21) f129p6 (f129s2 a b c) (joinK (some f129l3) K) =
  spec_l1Has.Z6 N a b c (K (.exit 0) f129s3) (fun d => K .ret (f129s4 d)) :=
 viaLoopS (by kernel_rfl) (f129t6L N (joinK (some f129l3) K) N a b c) (by kernel_rfl)
def f129p5 : Plan := .mk (some f129l3) none f129p6 .n
theorem f129t5 N a b c (K : KT ρ) : f129i N (f129c 13) f129p5 (f129s2 a b c) (joinK (some f129l3) K) =
  spec_l1Has.Z5 N a b c (K .nrm f129s3) (fun d => K .ret (f129s4 d)) :=
 viaBlockS (by kernel_rfl) (f129t6 N (K := blockK 0 (joinK (some f129l3) K)) ..) (by kernel_rfl)
def f129p3 : Plan := .mk (some f129l2) none .n f129p5
theorem f129t3 N a b (K : KT ρ) : f129i N (f129c 5) f129p3 (f129s1 a b) (joinK (some f129l3) K) =
  spec_l1Has.Z3 N a b (K .nrm f129s3) (fun c => K .ret (f129s4 c)) :=
 viaSeqS (fun k => spec_l1Has.Z4 N a b k) (by kernel_rfl) (f129t4 N (K := seqK (fun σ => f129i N (f129c 13) f129p5 σ (joinK (some f129l3) K)) (joinK (some f129l3) K)) ..) (fx3 fun a b d => f129t5 N a b d K) (by kernel_rfl)
theorem f129t8 N  (K : KT ρ) : f129i N (f129c 7) .n f129s3 (joinK (some f129lE) K) =
 spec_l1Has.Z8 N (fun a => K .ret (f129s4 a)) := by kernel_rfl
def f129p2 : Plan := .mk (some f129l3) none f129p3 .n
theorem f129t2 N a b (K : KT ρ) : f129i N (f129c 3) f129p2 (f129s1 a b) (joinK (some f129lE) K) =
  spec_l1Has.Z2 N a b (fun c => K .ret (f129s4 c)) :=
 viaSeqS (fun k => spec_l1Has.Z3 N a b k (fun c => K .ret (f129s4 c))) (by kernel_rfl) (f129t3 N (K := seqK (fun σ => f129i N (f129c 7) .n σ (joinK (some f129lE) K)) (joinK (some f129lE) K)) ..) (f129t8 N K) (by kernel_rfl)
def f129p0 : Plan := .mk (some f129l1) none .n f129p2
theorem f129t0 N a b (K : KT ρ) : f129i N (f129c 1) f129p0 (f129s0 a b) (joinK (some f129lE) K) =
  spec_l1Has.Z0 N a b (fun c => K .ret (f129s4 c)) :=
 viaSeqS (fun k => spec_l1Has.Z1 N a b k) (by kernel_rfl) (f129t1 N (K := seqK (fun σ => f129i N (f129c 3) f129p2 σ (joinK (some f129lE) K)) (joinK (some f129lE) K)) ..) (fx2 fun a b => f129t2 N a b K) (by kernel_rfl)
theorem f129m (N : Nat) (a : LI) (b : Int) : f129i N (f129c 1) f129p0 (f129s0 a b) (joinK (some f129lE) (finK tab f129sig Try.f129.results.toList)) = spec_l1Has.Z0 N a b (fun c => some ((), (c, ()))) :=
 (f129t0 N a b (finK tab f129sig Try.f129.results.toList)).trans (by kernel_rfl)
theorem f129ok (h : spec_l1Has.Spec) : EntryOk Try.prog 129 e129 :=
 entry_of_code (sig := f129sig) (c := (f129c 1)) (pl := f129p0) (je := (some f129lE)) (B := f129B) Try.func129 (by kernel_rfl) (by kernel_rfl) (by kernel_rfl) tabOk f129GOk (by kernel_rfl) (by kernel_rfl) (by kernel_rfl) (by kernel_rfl) fun X hb hp => by
  obtain ⟨a, b, _⟩ := X
  obtain ⟨N, h⟩ := h a b hb.1
  exact ⟨N, (f129m N a b).trans (h N (Nat.le_refl N))⟩
theorem e129ok : EntryOk Try.prog 129 e129 := f129ok spec_l1Has.ok
end Go.Fw
namespace Go.Fw
variable {ρ : Type}
open Go.Proofs
def f118sig : Sig := ⟨[⟨.pair (.int .i64) (.pair (.int .i64) (.sl 3 (.int .i64))), true, false⟩, ⟨.int .i64, false, false⟩], [⟨.sl 3 (.int .i64), false, false⟩, ⟨.sl 3 (.int .i64), false, false⟩]⟩
def e118 : Entry := ⟨f118sig, (some fun X => spec_l1Piece.P X.1 X.2.1), fun X => ((), ((spec_l1Piece.g X.1 X.2.1).1, ((spec_l1Piece.g X.1 X.2.1).2, ())))⟩
def f118G : Gm := addG (addG emptyG 80 e80) 129 e129
theorem f118GOk : GOk Try.prog f118G := ((GOk.nil).add e80ok (by kernel_rfl)).add e129ok (by kernel_rfl)
def f118lE : Clean := ⟨[], [], [], [], []⟩
def f118s0 (a : MT) (b : Int) : St := initSt f118sig.ps (a, (b, ()))
def f118s1 (a b c : Int) (d : LI) : St := stOf [(1, xi a), (2, xb 2)] [(2, (30, [yi b, yi c, .sn 3 tI d none]))] []
def f118l1 : Clean := ⟨[1, 2], [2], [], [], []⟩
def f118s2 (a : LI) (b c d : Int) (e : LI) : St := stOf [(1, xi b), (2, xb 2), (6, xo 1000384)] [(2, (30, [yi c, yi d, .sn 3 tI e none]))] [(1000384, (⟨3, .int .i64, a, true, false⟩ : Row))]
def f118l2 : Clean := ⟨[1, 2, 6], [2], [], [], [(⟨false, 6, 0⟩, 1000384)]⟩
def f118s3 (a b : LI) (c d : Int) (e : LI) : St := stOf [(2, xb 2), (6, xo 1000384), (7, xo 1000448)] [(2, (30, [yi c, yi d, .sn 3 tI e none]))] [(1000384, (⟨3, .int .i64, a, true, false⟩ : Row)), (1000448, (⟨3, .int .i64, b, true, false⟩ : Row))]
def f118l3 : Clean := ⟨[2, 6, 7], [2], [], [], [(⟨false, 6, 0⟩, 1000384), (⟨false, 7, 0⟩, 1000448)]⟩
def f118s4 (a b : LI) (c d e : Int) (f : LI) : St := stOf [(2, xb 2), (6, xo 1000384), (7, xo 1000448), (8, xi c)] [(2, (30, [yi d, yi e, .sn 3 tI f none]))] [(1000384, (⟨3, .int .i64, a, true, false⟩ : Row)), (1000448, (⟨3, .int .i64, b, true, false⟩ : Row))]
def f118l4 : Clean := ⟨[2, 6, 7, 8], [2], [], [], [(⟨false, 6, 0⟩, 1000384), (⟨false, 7, 0⟩, 1000448)]⟩
def f118s5 (a b : LI) (c d e f : Int) (g : LI) : St := stOf [(2, xb 2), (6, xo 1000384), (7, xo 1000448), (8, xi c), (9, xi d)] [(2, (30, [yi e, yi f, .sn 3 tI g none]))] [(1000384, (⟨3, .int .i64, a, true, false⟩ : Row)), (1000448, (⟨3, .int .i64, b, true, false⟩ : Row))]
def f118l5 : Clean := ⟨[2, 6, 7, 8, 9], [2], [], [], [(⟨false, 6, 0⟩, 1000384), (⟨false, 7, 0⟩, 1000448)]⟩
def f118s6 (a b : LI) : St := stOf [(6, xo 1000384), (7, xo 1000448)] [] [(1000384, (⟨3, .int .i64, a, true, false⟩ : Row)), (1000448, (⟨3, .int .i64, b, true, false⟩ : Row))]
def f118l6 : Clean := ⟨[6, 7], [], [], [], [(⟨false, 6, 0⟩, 1000384), (⟨false, 7, 0⟩, 1000448)]⟩
def f118s7 (a b : LI) : St := stOf [(4, xo 1000256), (5, xo 1000320)] [] [(1000256, (⟨3, .int .i64, a, true, false⟩ : Row)), (1000320, (⟨3, .int .i64, b, true, false⟩ : Row))]
def f118l7 : Clean := ⟨[4, 5], [], [], [], [(⟨false, 4, 0⟩, 1000256), (⟨false, 5, 0⟩, 1000320)]⟩
def f118B : Nat → Option Clean := lookL [(2, f118l4), (1, f118l4), (0, f118l6), (1000000, f118l7)]
abbrev f118i {ρ : Type} (N : Nat) (c : Code) (p : Plan) (σ : St) (K : KT ρ) : Option ρ := iCode f118G tab f118B N c p σ K
def f118c (n : Nat) : Code := codeN 99 (bodyOf Try.f118) n
theorem f118t1 N b a (K : KT ρ) : f118i N (f118c 2) .n (f118s0 b a) (joinK (some f118l1) K) =
 spec_l1Piece.Z1 N b a (fun a c d e => K .nrm (f118s1 a c d e)) := by kernel_rfl
theorem f118t3 N a b c d (K : KT ρ) : f118i N (f118c 5) .n (f118s1 a b c d) (joinK (some f118l2) K) =
 spec_l1Piece.Z3 N a b c d (fun e a b c d => K .nrm (f118s2 e a b c d)) := by kernel_rfl
theorem f118t5 N a e b c d (K : KT ρ) : f118i N (f118c 11) .n (f118s2 a e b c d) (joinK (some f118l3) K) =
 spec_l1Piece.Z5 N a e b c d (fun a f b c d => K .nrm (f118s3 a f b c d)) := by kernel_rfl
theorem f118t8 N a b c d e (K : KT ρ) : f118i N (f118c 39) .n (f118s3 a b c d e) (joinK (some f118l4) K) =
 spec_l1Piece.Z8 N a b c d e (fun a b f c d e => K .nrm (f118s4 a b f c d e)) := by kernel_rfl
theorem f118t12 N a b c d e f (K : KT ρ) : f118i N (f118c 279) .n (f118s4 a b c d e f) (joinK (some f118l4) K) =
 spec_l1Piece.Z12 N a b c d e f (fun a b c d e f => K .nrm (f118s4 a b c d e f)) (fun a b => K (.exit 0) (f118s6 a b)) := by kernel_rfl
theorem f118t16 N a b c d e f (K : KT ρ) : f118i N (f118c 2199) .n (f118s4 a b c d e f) (joinK (some f118l5) K) =
 spec_l1Piece.Z16 N a b c d e f (fun a b c g d e f => K .nrm (f118s5 a b c g d e f)) := by kernel_rfl
theorem f118t19 N a b c g d e f (K : KT ρ) : f118i N (f118c 9367) .n (f118s5 a b c g d e f) (joinK (some f118l5) K) =
 spec_l1Piece.Z19 N a b c g d e f (fun a b c g d e f => K .nrm (f118s5 a b c g d e f)) (fun a b c d e f => K (.exit 2) (f118s4 a b c d e f)) := by kernel_rfl
def f118p18 : Plan := .mk none (some f118l5) .n .n
abbrev f118w18 {ρ : Type} (N M : Nat) (σ : St) (K : KT ρ) : Option ρ := loopC (fun σ K => f118i N (f118c 9367) .n σ K) f118l5 M σ K
theorem f118t18L {ρ : Type} (N : Nat) (K : KT ρ) : ∀ (M : Nat) (a b : LI) (c g d e : Int) (f : LI), f118w18 N M (f118s5 a b c g d e f) K =
 spec_l1Piece.Z18L N (fun a b c d e f => K (.exit 2) (f118s4 a b c d e f)) M a b c g d e f
 | 0, _, _, _, _, _, _, _ => rfl
 | M + 1, a, b, c, g, d, e, f => viaRoundS (fun k => spec_l1Piece.Z19 N a b c g d e f k (fun a b c d e f => K (.exit 2) (f118s4 a b c d e f))) (f118t19 N (K := seqK (fun σ => f118w18 N M σ K) K) ..) (fx7 fun a b c g d e f => f118t18L N K M a b c g d e f) (by kernel_rfl)
theorem f118t18 N a b c g d e f (K : KT ρ) : f118i N (f118c 5271) f118p18 (f118s5 a b c g d e f) (joinK (some f118l4) K) =
  spec_l1Piece.Z18 N a b c g d e f (fun a b c d e f => K (.exit 2) (f118s4 a b c d e f)) :=
 viaLoopS (by kernel_rfl) (f118t18L N (joinK (some f118l4) K) N a b c g d e f) (by kernel_rfl)
def f118p17 : Plan := .mk (some f118l4) none f118p18 .n
theorem f118t17 N a b c g d e f (K : KT ρ) : f118i N (f118c 3223) f118p17 (f118s5 a b c g d e f) (joinK (some f118l4) K) =
  spec_l1Piece.Z17 N a b c g d e f (fun a b c d e f => K .nrm (f118s4 a b c d e f)) :=
 viaBlockS (by kernel_rfl) (f118t18 N (K := blockK 2 (joinK (some f118l4) K)) ..) (by kernel_rfl)
def f118p15 : Plan := .mk (some f118l5) none .n f118p17
theorem f118t15 N a b c d e f (K : KT ρ) : f118i N (f118c 1175) f118p15 (f118s4 a b c d e f) (joinK (some f118l4) K) =
  spec_l1Piece.Z15 N a b c d e f (fun a b c d e f => K .nrm (f118s4 a b c d e f)) :=
 viaSeqS (fun k => spec_l1Piece.Z16 N a b c d e f k) (by kernel_rfl) (f118t16 N (K := seqK (fun σ => f118i N (f118c 3223) f118p17 σ (joinK (some f118l4) K)) (joinK (some f118l4) K)) ..) (fx7 fun a b c g d e f => f118t17 N a b c g d e f K) (by kernel_rfl)
def f118p14 : Plan := .mk (some f118l4) none f118p15 .n
theorem f118t14 N a b c d e f (K : KT ρ) : f118i N (f118c 663) f118p14 (f118s4 a b c d e f) (joinK (some f118l4) K) =
  spec_l1Piece.Z14 N a b c d e f (fun a b c d e f => K .nrm (f118s4 a b c d e f)) :=
 viaBlockS (by kernel_rfl) (f118t15 N (K := blockK 1 (joinK (some f118l4) K)) ..) (by kernel_rfl)
theorem f118t20 N a b c d e f (K : KT ρ) : f118i N (f118c 919) .n (f118s4 a b c d e f) (joinK (some f118l4) K) =
 spec_l1Piece.Z20 N a b c d e f (fun a b c d e f => K .nrm (f118s4 a b c d e f)) := by kernel_rfl
def f118p13 : Plan := .mk (some f118l4) none f118p14 .n
theorem f118t13 N a b c d e f (K : KT ρ) : f118i N (f118c 407) f118p13 (f118s4 a b c d e f) (joinK (some f118l4) K) =
  spec_l1Piece.Z13 N a b c d e f (fun a b c d e f => K .nrm (f118s4 a b c d e f)) :=
 viaSeqS (fun k => spec_l1Piece.Z14 N a b c d e f k) (by kernel_rfl) (f118t14 N (K := seqK (fun σ => f118i N (f118c 919) .n σ (joinK (some f118l4) K)) (joinK (some f118l4) K)) ..) (fx6 fun a b c d e f => f118t20 N a b c d e f K) (by kernel_rfl)
def f118p11 : Plan := .mk (some f118l4) none .n f118p13
theorem f118t11 N a b c d e f (K : KT ρ) : f118i N (f118c 151) f118p11 (f118s4 a b c d e f) (joinK (some f118l4) K) =
  spec_l1Piece.Z11 N a b c d e f (fun a b c d e f => K .nrm (f118s4 a b c d e f)) (fun a b => K (.exit 0) (f118s6 a b)) :=
 viaSeqS (fun k => spec_l1Piece.Z12 N a b c d e f k (fun a b => K (.exit 0) (f118s6 a b))) (by kernel_rfl) (f118t12 N (K := seqK (fun σ => f118i N (f118c 407) f118p13 σ (joinK (some f118l4) K)) (joinK (some f118l4) K)) ..) (fx6 fun a b c d e f => f118t13 N a b c d e f K) (by kernel_rfl)
def f118p10 : Plan := .mk none (some f118l4) f118p11 .n
abbrev f118w10 {ρ : Type} (N M : Nat) (σ : St) (K : KT ρ) : Option ρ := loopC (fun σ K => f118i N (f118c 151) f118p11 σ K) f118l4 M σ K
theorem f118t10L {ρ : Type} (N : Nat) (K : KT ρ) : ∀ (M : Nat) (a b : LI) (c d e : Int) (f : LI), f118w10 N M (f118s4 a b c d e f) K =
 spec_l1Piece.Z10L N (fun a b => K (.exit 0) (f118s6 a b)) M a b c d e f
 | 0, _, _, _, _, _, _ => rfl
 | M + 1, a, b, c, d, e, f => viaRoundS (fun k => spec_l1Piece.Z11 N a b c d e f k (fun a b => K (.exit 0) (f118s6 a b))) (f118t11 N (K := seqK (fun σ => f118w10 N M σ K) K) ..) (fx6 fun a b c d e f => f118t10L N K M a b c d e f) (by kernel_rfl)
theorem f118t10 N a b c d e f (K : KT ρ) : f118i N (f118c 87) f118p10 (f118s4 a b c d e f) (joinK (some f118l6) K) =
  spec_l1Piece.Z10 N a b c d e f (fun a b => K (.exit 0) (f118s6 a b)) :=
 viaLoopS (by kernel_rfl) (f118t10L N (joinK (some f118l6) K) N a b c d e f) (by kernel_rfl)
def f118p9 : Plan := .mk (some f118l6) none f118p10 .n
theorem f118t9 N a b c d e f (K : KT ρ) : f118i N (f118c 55) f118p9 (f118s4 a b c d e f) (joinK (some f118l6) K) =
  spec_l1Piece.Z9 N a b c d e f (fun a b => K .nrm (f118s6 a b)) :=
 viaBlockS (by kernel_rfl) (f118t10 N (K := blockK 0 (joinK (some f118l6) K)) ..) (by kernel_rfl)
def f118p7 : Plan := .mk (some f118l4) none .n f118p9
theorem f118t7 N a b c d e (K : KT ρ) : f118i N (f118c 23) f118p7 (f118s3 a b c d e) (joinK (some f118l6) K) =
  spec_l1Piece.Z7 N a b c d e (fun a b => K .nrm (f118s6 a b)) :=
 viaSeqS (fun k => spec_l1Piece.Z8 N a b c d e k) (by kernel_rfl) (f118t8 N (K := seqK (fun σ => f118i N (f118c 55) f118p9 σ (joinK (some f118l6) K)) (joinK (some f118l6) K)) ..) (fx6 fun a b f c d e => f118t9 N a b f c d e K) (by kernel_rfl)
theorem f118t21 N a b (K : KT ρ) : f118i N (f118c 31) .n (f118s6 a b) (joinK (some f118lE) K) =
 spec_l1Piece.Z21 N a b (fun c d => K .ret (f118s7 c d)) := by kernel_rfl
def f118p6 : Plan := .mk (some f118l6) none f118p7 .n
theorem f118t6 N a b c d e (K : KT ρ) : f118i N (f118c 15) f118p6 (f118s3 a b c d e) (joinK (some f118lE) K) =
  spec_l1Piece.Z6 N a b c d e (fun f g => K .ret (f118s7 f g)) :=
 viaSeqS (fun k => spec_l1Piece.Z7 N a b c d e k) (by kernel_rfl) (f118t7 N (K := seqK (fun σ => f118i N (f118c 31) .n σ (joinK (some f118lE) K)) (joinK (some f118lE) K)) ..) (fx2 fun a b => f118t21 N a b K) (by kernel_rfl)
def f118p4 : Plan := .mk (some f118l3) none .n f118p6
theorem f118t4 N a e b c d (K : KT ρ) : f118i N (f118c 7) f118p4 (f118s2 a e b c d) (joinK (some f118lE) K) =
  spec_l1Piece.Z4 N a e b c d (fun f g => K .ret (f118s7 f g)) :=
 viaSeqS (fun k => spec_l1Piece.Z5 N a e b c d k) (by kernel_rfl) (f118t5 N (K := seqK (fun σ => f118i N (f118c 15) f118p6 σ (joinK (some f118lE) K)) (joinK (some f118lE) K)) ..) (fx5 fun a h b c d => f118t6 N a h b c d K) (by kernel_rfl)
def f118p2 : Plan := .mk (some f118l2) none .n f118p4
theorem f118t2 N a b c d (K : KT ρ) : f118i N (f118c 3) f118p2 (f118s1 a b c d) (joinK (some f118lE) K) =
  spec_l1Piece.Z2 N a b c d (fun e f => K .ret (f118s7 e f)) :=
 viaSeqS (fun k => spec_l1Piece.Z3 N a b c d k) (by kernel_rfl) (f118t3 N (K := seqK (fun σ => f118i N (f118c 7) f118p4 σ (joinK (some f118lE) K)) (joinK (some f118lE) K)) ..) (fx5 fun g a b c d => f118t4 N g a b c d K) (by kernel_rfl)
def f118p0 : Plan := .mk (some f118l1) none .n f118p2
theorem f118t0 N b a (K : KT ρ) : f118i N (f118c 1) f118p0 (f118s0 b a) (joinK (some f118lE) K) =
  spec_l1Piece.Z0 N b a (fun c d => K .ret (f118s7 c d)) :=
 viaSeqS (fun k => spec_l1Piece.Z1 N b a k) (by kernel_rfl) (f118t1 N (K := seqK (fun σ => f118i N (f118c 3) f118p2 σ (joinK (some f118lE) K)) (joinK (some f118lE) K)) ..) (fx4 fun a e f g => f118t2 N a e f g K) (by kernel_rfl)
theorem f118m (N : Nat) (a : MT) (b : Int) : f118i N (f118c 1) f118p0 (f118s0 a b) (joinK (some f118lE) (finK tab f118sig Try.f118.results.toList)) = spec_l1Piece.Z0 N a b (fun c d => some ((), (c, (d, ())))) :=
 (f118t0 N a b (finK tab f118sig Try.f118.results.toList)).trans (by kernel_rfl)
theorem f118ok (h : spec_l1Piece.Spec) : EntryOk Try.prog 118 e118 :=
 entry_of_code (sig := f118sig) (c := (f118c 1)) (pl := f118p0) (je := (some f118lE)) (B := f118B) Try.func118 (by kernel_rfl) (by kernel_rfl) (by kernel_rfl) tabOk f118GOk (by kernel_rfl) (by kernel_rfl) (by kernel_rfl) (by kernel_rfl) fun X hb hp => by
  obtain ⟨a, b, _⟩ := X
  obtain ⟨N, h⟩ := h a b hb.1 hp
  exact ⟨N, (f118m N a b).trans (h N (Nat.le_refl N))⟩
theorem e118ok : EntryOk Try.prog 118 e118 := f118ok spec_l1Piece.ok
end Go.Fw
namespace Go.Fw
variable {ρ : Type}
open Go.Proofs
def f119sig : Sig := ⟨[⟨.int .i64, false, false⟩], [⟨.int .i64, false, false⟩]⟩
def e119 : Entry := ⟨f119sig, none, fun X => ((), ((spec_l1Abs.g X.1), ()))⟩
def f119G : Gm := emptyG
theorem f119GOk : GOk Try.prog f119G := GOk.nil
def f119lE : Clean := ⟨[], [], [], [], []⟩
def f119s0 (a : Int) : St := initSt f119sig.ps (a, ())
def f119s1 (a : Int) : St := stOf [(2, xi a)] [] []
def f119l1 : Clean := ⟨[2], [], [], [], []⟩
def f119B : Nat → Option Clean := lookL [(1000000, f119l1)]
abbrev f119i {ρ : Type} (N : Nat) (c : Code) (p : Plan) (σ : St) (K : KT ρ) : Option ρ := iCode f119G tab f119B N c p σ K
def f119c (n : Nat) : Code := codeN 99 (bodyOf Try.f119) n
theorem f119t0 N a (K : KT ρ) : f119i N (f119c 1) .n (f119s0 a) (joinK (some f119lE) K) =
 spec_l1Abs.Z0 N a (fun b => K .ret (f119s1 b)) := by kernel_rfl
theorem f119m (N : Nat) (a : Int) : f119i N (f119c 1) .n (f119s0 a) (joinK (some f119lE) (finK tab f119sig Try.f119.results.toList)) = spec_l1Abs.Z0 N a (fun b => some ((), (b, ()))) :=
 (f119t0 N a (finK tab f119sig Try.f119.results.toList)).trans (by kernel_rfl)
theorem f119ok (h : spec_l1Abs.Spec) : EntryOk Try.prog 119 e119 :=
 entry_of_code (sig := f119sig) (c := (f119c 1)) (pl := .n) (je := (some f119lE)) (B := f119B) Try.func119 (by kernel_rfl) (by kernel_rfl) (by kernel_rfl) tabOk f119GOk (by kernel_rfl) (by kernel_rfl) (by kernel_rfl) (by kernel_rfl) fun X hb hp => by
  obtain ⟨a, _⟩ := X
  obtain ⟨N, h⟩ := h a
  exact ⟨N, (f119m N a).trans (h N (Nat.le_refl N))⟩
theorem e119ok : EntryOk Try.prog 119 e119 := f119ok spec_l1Abs.ok
end Go.Fw
namespace Go.Fw
variable {ρ : Type}
open Go.Proofs
def f120sig : Sig := ⟨[⟨.int .i64, false, false⟩, ⟨.int .i64, false, false⟩], [⟨.int .i64, false, false⟩]⟩
def e120 : Entry := ⟨f120sig, (some fun X => spec_l1Gcd.P X.1 X.2.1), fun X => ((), ((spec_l1Gcd.g X.1 X.2.1), ()))⟩
def f120G : Gm := emptyG
theorem f120GOk : GOk Try.prog f120G := GOk.nil
def f120lE : Clean := ⟨[], [], [], [], []⟩
def f120s0 (a b : Int) : St := initSt f120sig.ps (a, (b, ()))
def f120s1 (a b : Int) : St := stOf [(0, xi a), (1, xi b)] [] []
def f120l1 : Clean := ⟨[0, 1], [], [], [], []⟩
def f120s2 (a : Int) : St := stOf [(0, xi a)] [] []
def f120l2 : Clean := ⟨[0], [], [], [], []⟩
def f120s3 (a : Int) : St := stOf [(4, xi a)] [] []
def f120l3 : Clean := ⟨[4], [], [], [], []⟩
def f120B : Nat → Option Clean := lookL [(0, f120l2), (1000000, f120l3)]
abbrev f120i {ρ : Type} (N : Nat) (c : Code) (p : Plan) (σ : St) (K : KT ρ) : Option ρ := iCode f120G tab f120B N c p σ K
def f120c (n : Nat) : Code := codeN 99 (bodyOf Try.f120) n
theorem f120t1 N a b (K : KT ρ) : f120i N (f120c 2) .n (f120s0 a b) (joinK (some f120l1) K) =
 spec_l1Gcd.Z1 N a b (fun a b => K .nrm (f120s1 a b)) := by kernel_rfl
theorem f120t5 N a b (K : KT ρ) : f120i N (f120c 17) .n (f120s1 a b) (joinK (some f120l1) K) =
 spec_l1Gcd.Z5 N a b (fun a b => K .nrm (f120s1 a b)) (fun a => K (.exit 0) (f120s2 a)) := by kernel_rfl
def f120p4 : Plan := .mk none (some f120l1) .n .n
abbrev f120w4 {ρ : Type} (N M : Nat) (σ : St) (K : KT ρ) : Option ρ := loopC (fun σ K => f120i N (f120c 17) .n σ K) f120l1 M σ K
theorem f120t4L {ρ : Type} (N : Nat) (K : KT ρ) : ∀ (M : Nat) (a b : Int), f120w4 N M (f120s1 a b) K =
 spec_l1Gcd.Z4L N (fun a => K (.exit 0) (f120s2 a)) M a b
 | 0, _, _ => rfl
 | M + 1, a, b => viaRoundS (fun k => spec_l1Gcd.Z5 N a b k (fun a => K (.exit 0) (f120s2 a))) (f120t5 N (K := seqK (fun σ => f120w4 N M σ K) K) ..) (fx2 fun a b => f120t4L N K M a b) (by kernel_rfl)
theorem f120t4 N a b (K : KT ρ) : f120i N (f120c 9) f120p4 (f120s1 a b) (joinK (some f120l2) K) =
  spec_l1Gcd.Z4 N a b (fun a => K (.exit 0) (f120s2 a)) :=
 viaLoopS (by kernel_rfl) (f120t4L N (joinK (some f120l2) K) N a b) (by kernel_rfl)
def f120p3 : Plan := .mk (some f120l2) none f120p4 .n
theorem f120t3 N a b (K : KT ρ) : f120i N (f120c 5) f120p3 (f120s1 a b) (joinK (some f120l2) K) =
  spec_l1Gcd.Z3 N a b (fun a => K .nrm (f120s2 a)) :=
 viaBlockS (by kernel_rfl) (f120t4 N (K := blockK 0 (joinK (some f120l2) K)) ..) (by kernel_rfl)
theorem f120t6 N a (K : KT ρ) : f120i N (f120c 7) .n (f120s2 a) (joinK (some f120lE) K) =
 spec_l1Gcd.Z6 N a (fun b => K .ret (f120s3 b)) := by kernel_rfl
def f120p2 : Plan := .mk (some f120l2) none f120p3 .n
theorem f120t2 N a b (K : KT ρ) : f120i N (f120c 3) f120p2 (f120s1 a b) (joinK (some f120lE) K) =
  spec_l1Gcd.Z2 N a b (fun c => K .ret (f120s3 c)) :=
 viaSeqS (fun k => spec_l1Gcd.Z3 N a b k) (by kernel_rfl) (f120t3 N (K := seqK (fun σ => f120i N (f120c 7) .n σ (joinK (some f120lE) K)) (joinK (some f120lE) K)) ..) (funext fun a => f120t6 N a K) (by kernel_rfl)
def f120p0 : Plan := .mk (some f120l1) none .n f120p2
theorem f120t0 N a b (K : KT ρ) : f120i N (f120c 1) f120p0 (f120s0 a b) (joinK (some f120lE) K) =
  spec_l1Gcd.Z0 N a b (fun c => K .ret (f120s3 c)) :=
 viaSeqS (fun k => spec_l1Gcd.Z1 N a b k) (by kernel_rfl) (f120t1 N (K := seqK (fun σ => f120i N (f120c 3) f120p2 σ (joinK (some f120lE) K)) (joinK (some f120lE) K)) ..) (fx2 fun a b => f120t2 N a b K) (by kernel_rfl)
theorem f120m (N : Nat) (a b : Int) : f120i N (f120c 1) f120p0 (f120s0 a b) (joinK (some f120lE) (finK tab f120sig Try.f120.results.toList)) = spec_l1Gcd.Z0 N a b (fun c => some ((), (c, ()))) :=
 (f120t0 N a b (finK tab f120sig Try.f120.results.toList)).trans (by kernel_rfl)
theorem f120ok (h : spec_l1Gcd.Spec) : EntryOk Try.prog 120 e120 :=
 entry_of_code (sig := f120sig) (c := (f120c 1)) (pl := f120p0) (je := (some f120lE)) (B := f120B) Try.func120 (by kernel_rfl) (by kernel_rfl) (by kernel_rfl) tabOk f120GOk (by kernel_rfl) (by kernel_rfl) (by kernel_rfl) (by kernel_rfl) fun X hb hp => by
  obtain ⟨a, b, _⟩ := X
  obtain ⟨N, h⟩ := h a b hp
  exact ⟨N, (f120m N a b).trans (h N (Nat.le_refl N))⟩
theorem e120ok : EntryOk Try.prog 120 e120 := f120ok spec_l1Gcd.ok
end Go.Fw
namespace Go.Fw
variable {ρ : Type}
open Go.Proofs
def f94sig : Sig := ⟨[⟨.pair (.int .i64) (.pair (.int .i64) (.sl 3 (.int .i64))), true, false⟩], [⟨.sl 3 (.int .i64), false, false⟩, ⟨.bool, false, false⟩]⟩
def e94 : Entry := ⟨f94sig, (some fun X => spec_l1Factors.P X.1), fun X => ((), ((spec_l1Factors.g X.1).1, ((spec_l1Factors.g X.1).2, ())))⟩
def f94G : Gm := addG (addG (addG (addG emptyG 80 e80) 118 e118) 119 e119) 120 e120
theorem f94GOk : GOk Try.prog f94G := ((((GOk.nil).add e80ok (by kernel_rfl)).add e118ok (by kernel_rfl)).add e119ok (by kernel_rfl)).add e120ok (by kernel_rfl)
def f94lE : Clean := ⟨[], [], [], [], []⟩
def f94s0 (a : MT) : St := initSt f94sig.ps (a, ())
def f94s1 (a b : Int) (c : LI) : St := stOf [(1, xb 1)] [(1, (30, [yi a, yi b, .sn 3 tI c none]))] []
def f94l1 : Clean := ⟨[1], [1], [], [], []⟩
def f94s2 (a : LI) (b c : Int) (d : LI) : St := stOf [(1, xb 1), (4, xo 1000256)] [(1, (30, [yi b, yi c, .sn 3 tI d none]))] [(1000256, (⟨3, .int .i64, a, true, false⟩ : Row))]
def f94l2 : Clean := ⟨[1, 4], [1], [], [], [(⟨false, 4, 0⟩, 1000256)]⟩
def f94s3 (a : LI) (b c d : Int) (e : LI) : St := stOf [(1, xb 1), (4, xo 1000256), (5, xi b)] [(1, (30, [yi c, yi d, .sn 3 tI e none]))] [(1000256, (⟨3, .int .i64, a, true, false⟩ : Row))]
def f94l3 : Clean := ⟨[1, 4, 5], [1], [], [], [(⟨false, 4, 0⟩, 1000256)]⟩
def f94s4 (a b c : LI) (d e f : Int) (g : LI) : St := stOf [(1, xb 1), (4, xo 1000256), (5, xi d), (6, xo 1000384), (7, xo 1000448)] [(1, (30, [yi e, yi f, .sn 3 tI g none]))] [(1000256, (⟨3, .int .i64, a, true, false⟩ : Row)), (1000384, (⟨3, .int .i64, b, true, false⟩ : Row)), (1000448, (⟨3, .int .i64, c, true, false⟩ : Row))]
def f94l4 : Clean := ⟨[1, 4, 5, 6, 7], [1], [], [], [(⟨false, 4, 0⟩, 1000256), (⟨false, 6, 0⟩, 1000384), (⟨false, 7, 0⟩, 1000448)]⟩
def f94s5 (a b c : LI) (d e f g : Int) (h : LI) : St := stOf [(1, xb 1), (4, xo 1000256), (5, xi d), (6, xo 1000384), (7, xo 1000448), (8, xi e)] [(1, (30, [yi f, yi g, .sn 3 tI h none]))] [(1000256, (⟨3, .int .i64, a, true, false⟩ : Row)), (1000384, (⟨3, .int .i64, b, true, false⟩ : Row)), (1000448, (⟨3, .int .i64, c, true, false⟩ : Row))]
def f94l5 : Clean := ⟨[1, 4, 5, 6, 7, 8], [1], [], [], [(⟨false, 4, 0⟩, 1000256), (⟨false, 6, 0⟩, 1000384), (⟨false, 7, 0⟩, 1000448)]⟩
def f94s6 (a b c : LI) (d e f g : Int) (h : LI) : St := stOf [(1, xb 1), (4, xo 1000256), (5, xi d), (6, xo 1000384), (7, xo 1000448), (9, xi e)] [(1, (30, [yi f, yi g, .sn 3 tI h none]))] [(1000256, (⟨3, .int .i64, a, true, false⟩ : Row)), (1000384, (⟨3, .int .i64, b, true, false⟩ : Row)), (1000448, (⟨3, .int .i64, c, true, false⟩ : Row))]
def f94l6 : Clean := ⟨[1, 4, 5, 6, 7, 9], [1], [], [], [(⟨false, 4, 0⟩, 1000256), (⟨false, 6, 0⟩, 1000384), (⟨false, 7, 0⟩, 1000448)]⟩
def f94s7 (a b c : LI) (d e f g h : Int) (i : LI) : St := stOf [(1, xb 1), (4, xo 1000256), (5, xi d), (6, xo 1000384), (7, xo 1000448), (9, xi e), (10, xi f)] [(1, (30, [yi g, yi h, .sn 3 tI i none]))] [(1000256, (⟨3, .int .i64, a, true, false⟩ : Row)), (1000384, (⟨3, .int .i64, b, true, false⟩ : Row)), (1000448, (⟨3, .int .i64, c, true, false⟩ : Row))]
def f94l7 : Clean := ⟨[1, 4, 5, 6, 7, 9, 10], [1], [], [], [(⟨false, 4, 0⟩, 1000256), (⟨false, 6, 0⟩, 1000384), (⟨false, 7, 0⟩, 1000448)]⟩
def f94s8 (a b : LI) (c d e f : Int) (g : LI) : St := stOf [(1, xb 1), (4, xo 1000256), (5, xi c), (6, xo 1000384), (9, xi d)] [(1, (30, [yi e, yi f, .sn 3 tI g none]))] [(1000256, (⟨3, .int .i64, a, true, false⟩ : Row)), (1000384, (⟨3, .int .i64, b, true, false⟩ : Row))]
def f94l8 : Clean := ⟨[1, 4, 5, 6, 9], [1], [], [], [(⟨false, 4, 0⟩, 1000256), (⟨false, 6, 0⟩, 1000384)]⟩
def f94s9 (a b : LI) (c d e f g : Int) (h : LI) : St := stOf [(1, xb 1), (4, xo 1000256), (5, xi c), (6, xo 1000384), (9, xi d), (11, xi e)] [(1, (30, [yi f, yi g, .sn 3 tI h none]))] [(1000256, (⟨3, .int .i64, a, true, false⟩ : Row)), (1000384, (⟨3, .int .i64, b, true, false⟩ : Row))]
def f94l9 : Clean := ⟨[1, 4, 5, 6, 9, 11], [1], [], [], [(⟨false, 4, 0⟩, 1000256), (⟨false, 6, 0⟩, 1000384)]⟩
def f94s10 (a : LI) (b c d : Int) (e : LI) : St := stOf [(1, xb 1), (4, xo 1000256), (12, xi b)] [(1, (30, [yi c, yi d, .sn 3 tI e none]))] [(1000256, (⟨3, .int .i64, a, true, false⟩ : Row))]
def f94l10 : Clean := ⟨[1, 4, 12], [1], [], [], [(⟨false, 4, 0⟩, 1000256)]⟩
def f94s11 (a : LI) (b c d e : Int) (f : LI) : St := stOf [(1, xb 1), (4, xo 1000256), (12, xi b), (13, xi c)] [(1, (30, [yi d, yi e, .sn 3 tI f none]))] [(1000256, (⟨3, .int .i64, a, true, false⟩ : Row))]
def f94l11 : Clean := ⟨[1, 4, 12, 13], [1], [], [], [(⟨false, 4, 0⟩, 1000256)]⟩
def f94s12 (a : LI) : St := stOf [(4, xo 1000256)] [] [(1000256, (⟨3, .int .i64, a, true, false⟩ : Row))]
def f94l12 : Clean := ⟨[4], [], [], [], [(⟨false, 4, 0⟩, 1000256)]⟩
def f94s13 (a : LI) (b : Bool) : St := stOf [(2, xo 1000128), (3, xB b)] [] [(1000128, (⟨3, .int .i64, a, true, false⟩ : Row))]
def f94l13 : Clean := ⟨[2, 3], [], [⟨⟨false, 2, 0⟩, 30000000, 3, .int .i64, true⟩], [], [(⟨false, 2, 0⟩, 1000128)]⟩
def f94B : Nat → Option Clean := lookL [(2, f94l4), (4, f94l8), (6, f94l3), (1, f94l3), (0, f94l2), (10, f94l10), (9, f94l10), (8, f94l12), (1000000, f94l13)]
abbrev f94i {ρ : Type} (N : Nat) (c : Code) (p : Plan) (σ : St) (K : KT ρ) : Option ρ := iCode f94G tab f94B N c p σ K
def f94c (n : Nat) : Code := codeN 99 (bodyOf Try.f94) n
theorem f94t1 N a (K : KT ρ) : f94i N (f94c 2) .n (f94s0 a) (joinK (some f94l1) K) =
 spec_l1Factors.Z1 N a (fun b c d => K .nrm (f94s1 b c d)) := by kernel_rfl
theorem f94t3 N a b c (K : KT ρ) : f94i N (f94c 5) .n (f94s1 a b c) (joinK (some f94l2) K) =
 spec_l1Factors.Z3 N a b c (fun d a b c => K .nrm (f94s2 d a b c)) := by kernel_rfl
theorem f94t6 N a b c d (K : KT ρ) : f94i N (f94c 19) .n (f94s2 a b c d) (joinK (some f94l3) K) =
 spec_l1Factors.Z6 N a b c d (fun a e b c d => K .nrm (f94s3 a e b c d)) := by kernel_rfl
theorem f94t10 N a e b c d (K : KT ρ) : f94i N (f94c 139) .n (f94s3 a e b c d) (joinK (some f94l3) K) =
 spec_l1Factors.Z10 N a e b c d (fun a e b c d => K .nrm (f94s3 a e b c d)) (fun a b c d => K (.exit 0) (f94s2 a b c d)) := by kernel_rfl
theorem f94t14 N a b c d e (K : KT ρ) : f94i N (f94c 1099) .n (f94s3 a b c d e) (joinK (some f94l3) K) =
 spec_l1Factors.Z14 N a b c d e (fun a b c d e => K .nrm (f94s3 a b c d e)) (fun a b c d e => K (.exit 1) (f94s3 a b c d e)) := by kernel_rfl
theorem f94t16 N a b c d e (K : KT ρ) : f94i N (f94c 2635) .n (f94s3 a b c d e) (joinK (some f94l4) K) =
 spec_l1Factors.Z16 N a b c d e (fun a f g b c d e => K .nrm (f94s4 a f g b c d e)) := by kernel_rfl
theorem f94t18 N a b c d e f g (K : KT ρ) : f94i N (f94c 5707) .n (f94s4 a b c d e f g) (joinK (some f94l4) K) =
 spec_l1Factors.Z18 N a b c d e f g (fun a b c d e f g => K .nrm (f94s4 a b c d e f g)) := by kernel_rfl
theorem f94t21 N a b c d e f g (K : KT ρ) : f94i N (f94c 20043) .n (f94s4 a b c d e f g) (joinK (some f94l5) K) =
 spec_l1Factors.Z21 N a b c d e f g (fun a b c d h e f g => K .nrm (f94s5 a b c d h e f g)) := by kernel_rfl
theorem f94t24 N a b c d h e f g (K : KT ρ) : f94i N (f94c 77387) .n (f94s5 a b c d h e f g) (joinK (some f94l5) K) =
 spec_l1Factors.Z24 N a b c d h e f g (fun a b c d h e f g => K .nrm (f94s5 a b c d h e f g)) (fun a b c d e f g => K (.exit 2) (f94s4 a b c d e f g)) := by kernel_rfl
def f94p23 : Plan := .mk none (some f94l5) .n .n
abbrev f94w23 {ρ : Type} (N M : Nat) (σ : St) (K : KT ρ) : Option ρ := loopC (fun σ K => f94i N (f94c 77387) .n σ K) f94l5 M σ K
theorem f94t23L {ρ : Type} (N : Nat) (K : KT ρ) : ∀ (M : Nat) (a b c : LI) (d h e f : Int) (g : LI), f94w23 N M (f94s5 a b c d h e f g) K =
 spec_l1Factors.Z23L N (fun a b c d e f g => K (.exit 2) (f94s4 a b c d e f g)) M a b c d h e f g
 | 0, _, _, _, _, _, _, _, _ => rfl
 | M + 1, a, b, c, d, h, e, f, g => viaRoundS (fun k => spec_l1Factors.Z24 N a b c d h e f g k (fun a b c d e f g => K (.exit 2) (f94s4 a b c d e f g))) (f94t24 N (K := seqK (fun σ => f94w23 N M σ K) K) ..) (fx8 fun a b c d h e f g => f94t23L N K M a b c d h e f g) (by kernel_rfl)
theorem f94t23 N a b c d h e f g (K : KT ρ) : f94i N (f94c 44619) f94p23 (f94s5 a b c d h e f g) (joinK (some f94l4) K) =
  spec_l1Factors.Z23 N a b c d h e f g (fun a b c d e f g => K (.exit 2) (f94s4 a b c d e f g)) :=
 viaLoopS (by kernel_rfl) (f94t23L N (joinK (some f94l4) K) N a b c d h e f g) (by kernel_rfl)
def f94p22 : Plan := .mk (some f94l4) none f94p23 .n
theorem f94t22 N a b c d h e f g (K : KT ρ) : f94i N (f94c 28235) f94p22 (f94s5 a b c d h e f g) (joinK (some f94l4) K) =
  spec_l1Factors.Z22 N a b c d h e f g (fun a b c d e f g => K .nrm (f94s4 a b c d e f g)) :=
 viaBlockS (by kernel_rfl) (f94t23 N (K := blockK 2 (joinK (some f94l4) K)) ..) (by kernel_rfl)
def f94p20 : Plan := .mk (some f94l5) none .n f94p22
theorem f94t20 N a b c d e f g (K : KT ρ) : f94i N (f94c 11851) f94p20 (f94s4 a b c d e f g) (joinK (some f94l4) K) =
  spec_l1Factors.Z20 N a b c d e f g (fun a b c d e f g => K .nrm (f94s4 a b c d e f g)) :=
 viaSeqS (fun k => spec_l1Factors.Z21 N a b c d e f g k) (by kernel_rfl) (f94t21 N (K := seqK (fun σ => f94i N (f94c 28235) f94p22 σ (joinK (some f94l4) K)) (joinK (some f94l4) K)) ..) (fx8 fun a b c d h e f g => f94t22 N a b c d h e f g K) (by kernel_rfl)
theorem f94t26 N a b c d e f g (K : KT ρ) : f94i N (f94c 24139) .n (f94s4 a b c d e f g) (joinK (some f94l6) K) =
 spec_l1Factors.Z26 N a b c d e f g (fun a b c d h e f g => K .nrm (f94s6 a b c d h e f g)) := by kernel_rfl
theorem f94t29 N a b c d e f g h (K : KT ρ) : f94i N (f94c 81483) .n (f94s6 a b c d e f g h) (joinK (some f94l7) K) =
 spec_l1Factors.Z29 N a b c d e f g h (fun a b c d e i f g h => K .nrm (f94s7 a b c d e i f g h)) := by kernel_rfl
theorem f94t32 N a b h c d i e f g (K : KT ρ) : f94i N (f94c 310859) .n (f94s7 a b h c d i e f g) (joinK (some f94l7) K) =
 spec_l1Factors.Z32 N a b h c d i e f g (fun a b h c d i e f g => K .nrm (f94s7 a b h c d i e f g)) (fun a b c d e f g => K (.exit 4) (f94s8 a b c d e f g)) := by kernel_rfl
def f94p31 : Plan := .mk none (some f94l7) .n .n
abbrev f94w31 {ρ : Type} (N M : Nat) (σ : St) (K : KT ρ) : Option ρ := loopC (fun σ K => f94i N (f94c 310859) .n σ K) f94l7 M σ K
theorem f94t31L {ρ : Type} (N : Nat) (K : KT ρ) : ∀ (M : Nat) (a b h : LI) (c d i e f : Int) (g : LI), f94w31 N M (f94s7 a b h c d i e f g) K =
 spec_l1Factors.Z31L N (fun a b c d e f g => K (.exit 4) (f94s8 a b c d e f g)) M a b h c d i e f g
 | 0, _, _, _, _, _, _, _, _, _ => rfl
 | M + 1, a, b, h, c, d, i, e, f, g => viaRoundS (fun k => spec_l1Factors.Z32 N a b h c d i e f g k (fun a b c d e f g => K (.exit 4) (f94s8 a b c d e f g))) (f94t32 N (K := seqK (fun σ => f94w31 N M σ K) K) ..) (fx9 fun a b h c d i e f g => f94t31L N K M a b h c d i e f g) (by kernel_rfl)
theorem f94t31 N a b h c d i e f g (K : KT ρ) : f94i N (f94c 179787) f94p31 (f94s7 a b h c d i e f g) (joinK (some f94l8) K) =
  spec_l1Factors.Z31 N a b h c d i e f g (fun a b c d e f g => K (.exit 4) (f94s8 a b c d e f g)) :=
 viaLoopS (by kernel_rfl) (f94t31L N (joinK (some f94l8) K) N a b h c d i e f g) (by kernel_rfl)
def f94p30 : Plan := .mk (some f94l8) none f94p31 .n
theorem f94t30 N a b h c d i e f g (K : KT ρ) : f94i N (f94c 114251) f94p30 (f94s7 a b h c d i e f g) (joinK (some f94l8) K) =
  spec_l1Factors.Z30 N a b h c d i e f g (fun a b c d e f g => K .nrm (f94s8 a b c d e f g)) :=
 viaBlockS (by kernel_rfl) (f94t31 N (K := blockK 4 (joinK (some f94l8) K)) ..) (by kernel_rfl)
def f94p28 : Plan := .mk (some f94l7) none .n f94p30
theorem f94t28 N a b h c d e f g (K : KT ρ) : f94i N (f94c 48715) f94p28 (f94s6 a b h c d e f g) (joinK (some f94l8) K) =
  spec_l1Factors.Z28 N a b h c d e f g (fun a b c d e f g => K .nrm (f94s8 a b c d e f g)) :=
 viaSeqS (fun k => spec_l1Factors.Z29 N a b h c d e f g k) (by kernel_rfl) (f94t29 N (K := seqK (fun σ => f94i N (f94c 114251) f94p30 σ (joinK (some f94l8) K)) (joinK (some f94l8) K)) ..) (fx9 fun a b h c d i e f g => f94t30 N a b h c d i e f g K) (by kernel_rfl)
theorem f94t34 N a b c d e f g (K : KT ρ) : f94i N (f94c 97867) .n (f94s8 a b c d e f g) (joinK (some f94l9) K) =
 spec_l1Factors.Z34 N a b c d e f g (fun a b c d h e f g => K .nrm (f94s9 a b c d h e f g)) := by kernel_rfl
theorem f94t37 N a f b g h c d e (K : KT ρ) : f94i N (f94c 327243) .n (f94s9 a f b g h c d e) (joinK (some f94l9) K) =
 spec_l1Factors.Z37 N a f b g h c d e (fun a f b g h c d e => K .nrm (f94s9 a f b g h c d e)) (fun a b c d e => K (.exit 6) (f94s3 a b c d e)) := by kernel_rfl
def f94p36 : Plan := .mk none (some f94l9) .n .n
abbrev f94w36 {ρ : Type} (N M : Nat) (σ : St) (K : KT ρ) : Option ρ := loopC (fun σ K => f94i N (f94c 327243) .n σ K) f94l9 M σ K
theorem f94t36L {ρ : Type} (N : Nat) (K : KT ρ) : ∀ (M : Nat) (a f : LI) (b g h c d : Int) (e : LI), f94w36 N M (f94s9 a f b g h c d e) K =
 spec_l1Factors.Z36L N (fun a b c d e => K (.exit 6) (f94s3 a b c d e)) M a f b g h c d e
 | 0, _, _, _, _, _, _, _, _ => rfl
 | M + 1, a, f, b, g, h, c, d, e => viaRoundS (fun k => spec_l1Factors.Z37 N a f b g h c d e k (fun a b c d e => K (.exit 6) (f94s3 a b c d e))) (f94t37 N (K := seqK (fun σ => f94w36 N M σ K) K) ..) (fx8 fun a f b g h c d e => f94t36L N K M a f b g h c d e) (by kernel_rfl)
theorem f94t36 N a f b g h c d e (K : KT ρ) : f94i N (f94c 196171) f94p36 (f94s9 a f b g h c d e) (joinK (some f94l3) K) =
  spec_l1Factors.Z36 N a f b g h c d e (fun a b c d e => K (.exit 6) (f94s3 a b c d e)) :=
 viaLoopS (by kernel_rfl) (f94t36L N (joinK (some f94l3) K) N a f b g h c d e) (by kernel_rfl)
def f94p35 : Plan := .mk (some f94l3) none f94p36 .n
theorem f94t35 N a f b g h c d e (K : KT ρ) : f94i N (f94c 130635) f94p35 (f94s9 a f b g h c d e) (joinK (some f94l3) K) =
  spec_l1Factors.Z35 N a f b g h c d e (fun a b c d e => K .nrm (f94s3 a b c d e)) :=
 viaBlockS (by kernel_rfl) (f94t36 N (K := blockK 6 (joinK (some f94l3) K)) ..) (by kernel_rfl)
def f94p33 : Plan := .mk (some f94l9) none .n f94p35
theorem f94t33 N a f b g c d e (K : KT ρ) : f94i N (f94c 65099) f94p33 (f94s8 a f b g c d e) (joinK (some f94l3) K) =
  spec_l1Factors.Z33 N a f b g c d e (fun a b c d e => K .nrm (f94s3 a b c d e)) :=
 viaSeqS (fun k => spec_l1Factors.Z34 N a f b g c d e k) (by kernel_rfl) (f94t34 N (K := seqK (fun σ => f94i N (f94c 130635) f94p35 σ (joinK (some f94l3) K)) (joinK (some f94l3) K)) ..) (fx8 fun a f b g h c d e => f94t35 N a f b g h c d e K) (by kernel_rfl)
def f94p27 : Plan := .mk (some f94l8) none f94p28 f94p33
theorem f94t27 N a f h b g c d e (K : KT ρ) : f94i N (f94c 32331) f94p27 (f94s6 a f h b g c d e) (joinK (some f94l3) K) =
  spec_l1Factors.Z27 N a f h b g c d e (fun a b c d e => K .nrm (f94s3 a b c d e)) :=
 viaSeqS (fun k => spec_l1Factors.Z28 N a f h b g c d e k) (by kernel_rfl) (f94t28 N (K := seqK (fun σ => f94i N (f94c 65099) f94p33 σ (joinK (some f94l3) K)) (joinK (some f94l3) K)) ..) (fx7 fun a f b g c d e => f94t33 N a f b g c d e K) (by kernel_rfl)
def f94p25 : Plan := .mk (some f94l6) none .n f94p27
theorem f94t25 N a f g b c d e (K : KT ρ) : f94i N (f94c 15947) f94p25 (f94s4 a f g b c d e) (joinK (some f94l3) K) =
  spec_l1Factors.Z25 N a f g b c d e (fun a b c d e => K .nrm (f94s3 a b c d e)) :=
 viaSeqS (fun k => spec_l1Factors.Z26 N a f g b c d e k) (by kernel_rfl) (f94t26 N (K := seqK (fun σ => f94i N (f94c 32331) f94p27 σ (joinK (some f94l3) K)) (joinK (some f94l3) K)) ..) (fx8 fun a f g b h c d e => f94t27 N a f g b h c d e K) (by kernel_rfl)
def f94p19 : Plan := .mk (some f94l4) none f94p20 f94p25
theorem f94t19 N a f g b c d e (K : KT ρ) : f94i N (f94c 7755) f94p19 (f94s4 a f g b c d e) (joinK (some f94l3) K) =
  spec_l1Factors.Z19 N a f g b c d e (fun a b c d e => K .nrm (f94s3 a b c d e)) :=
 viaSeqS (fun k => spec_l1Factors.Z20 N a f g b c d e k) (by kernel_rfl) (f94t20 N (K := seqK (fun σ => f94i N (f94c 15947) f94p25 σ (joinK (some f94l3) K)) (joinK (some f94l3) K)) ..) (fx7 fun a f g b c d e => f94t25 N a f g b c d e K) (by kernel_rfl)
def f94p17 : Plan := .mk (some f94l4) none .n f94p19
theorem f94t17 N a f g b c d e (K : KT ρ) : f94i N (f94c 3659) f94p17 (f94s4 a f g b c d e) (joinK (some f94l3) K) =
  spec_l1Factors.Z17 N a f g b c d e (fun a b c d e => K .nrm (f94s3 a b c d e)) :=
 viaSeqS (fun k => spec_l1Factors.Z18 N a f g b c d e k) (by kernel_rfl) (f94t18 N (K := seqK (fun σ => f94i N (f94c 7755) f94p19 σ (joinK (some f94l3) K)) (joinK (some f94l3) K)) ..) (fx7 fun a f g b c d e => f94t19 N a f g b c d e K) (by kernel_rfl)
def f94p15 : Plan := .mk (some f94l4) none .n f94p17
theorem f94t15 N a b c d e (K : KT ρ) : f94i N (f94c 1611) f94p15 (f94s3 a b c d e) (joinK (some f94l3) K) =
  spec_l1Factors.Z15 N a b c d e (fun a b c d e => K .nrm (f94s3 a b c d e)) :=
 viaSeqS (fun k => spec_l1Factors.Z16 N a b c d e k) (by kernel_rfl) (f94t16 N (K := seqK (fun σ => f94i N (f94c 3659) f94p17 σ (joinK (some f94l3) K)) (joinK (some f94l3) K)) ..) (fx7 fun a f g b c d e => f94t17 N a f g b c d e K) (by kernel_rfl)
def f94p13 : Plan := .mk (some f94l3) none .n f94p15
theorem f94t13 N a b c d e (K : KT ρ) : f94i N (f94c 587) f94p13 (f94s3 a b c d e) (joinK (some f94l3) K) =
  spec_l1Factors.Z13 N a b c d e (fun a b c d e => K .nrm (f94s3 a b c d e)) (fun a b c d e => K (.exit 1) (f94s3 a b c d e)) :=
 viaSeqS (fun k => spec_l1Factors.Z14 N a b c d e k (fun a b c d e => K (.exit 1) (f94s3 a b c d e))) (by kernel_rfl) (f94t14 N (K := seqK (fun σ => f94i N (f94c 1611) f94p15 σ (joinK (some f94l3) K)) (joinK (some f94l3) K)) ..) (fx5 fun a b c d e => f94t15 N a b c d e K) (by kernel_rfl)
def f94p12 : Plan := .mk (some f94l3) none f94p13 .n
theorem f94t12 N a b c d e (K : KT ρ) : f94i N (f94c 331) f94p12 (f94s3 a b c d e) (joinK (some f94l3) K) =
  spec_l1Factors.Z12 N a b c d e (fun a b c d e => K .nrm (f94s3 a b c d e)) :=
 viaBlockS (by kernel_rfl) (f94t13 N (K := blockK 1 (joinK (some f94l3) K)) ..) (by kernel_rfl)
theorem f94t38 N a b c d e (K : KT ρ) : f94i N (f94c 459) .n (f94s3 a b c d e) (joinK (some f94l3) K) =
 spec_l1Factors.Z38 N a b c d e (fun a b c d e => K .nrm (f94s3 a b c d e)) := by kernel_rfl
def f94p11 : Plan := .mk (some f94l3) none f94p12 .n
theorem f94t11 N a b c d e (K : KT ρ) : f94i N (f94c 203) f94p11 (f94s3 a b c d e) (joinK (some f94l3) K) =
  spec_l1Factors.Z11 N a b c d e (fun a b c d e => K .nrm (f94s3 a b c d e)) :=
 viaSeqS (fun k => spec_l1Factors.Z12 N a b c d e k) (by kernel_rfl) (f94t12 N (K := seqK (fun σ => f94i N (f94c 459) .n σ (joinK (some f94l3) K)) (joinK (some f94l3) K)) ..) (fx5 fun a b c d e => f94t38 N a b c d e K) (by kernel_rfl)
def f94p9 : Plan := .mk (some f94l3) none .n f94p11
theorem f94t9 N a e b c d (K : KT ρ) : f94i N (f94c 75) f94p9 (f94s3 a e b c d) (joinK (some f94l3) K) =
  spec_l1Factors.Z9 N a e b c d (fun a e b c d => K .nrm (f94s3 a e b c d)) (fun a b c d => K (.exit 0) (f94s2 a b c d)) :=
 viaSeqS (fun k => spec_l1Factors.Z10 N a e b c d k (fun a b c d => K (.exit 0) (f94s2 a b c d))) (by kernel_rfl) (f94t10 N (K := seqK (fun σ => f94i N (f94c 203) f94p11 σ (joinK (some f94l3) K)) (joinK (some f94l3) K)) ..) (fx5 fun a e b c d => f94t11 N a e b c d K) (by kernel_rfl)
def f94p8 : Plan := .mk none (some f94l3) f94p9 .n
abbrev f94w8 {ρ : Type} (N M : Nat) (σ : St) (K : KT ρ) : Option ρ := loopC (fun σ K => f94i N (f94c 75) f94p9 σ K) f94l3 M σ K
theorem f94t8L {ρ : Type} (N : Nat) (K : KT ρ) : ∀ (M : Nat) (a : LI) (e b c : Int) (d : LI), f94w8 N M (f94s3 a e b c d) K =
 spec_l1Factors.Z8L N (fun a b c d => K (.exit 0) (f94s2 a b c d)) M a e b c d
 | 0, _, _, _, _, _ => rfl
 | M + 1, a, e, b, c, d => viaRoundS (fun k => spec_l1Factors.Z9 N a e b c d k (fun a b c d => K (.exit 0) (f94s2 a b c d))) (f94t9 N (K := seqK (fun σ => f94w8 N M σ K) K) ..) (fx5 fun a e b c d => f94t8L N K M a e b c d) (by kernel_rfl)
theorem f94t8 N a e b c d (K : KT ρ) : f94i N (f94c 43) f94p8 (f94s3 a e b c d) (joinK (some f94l2) K) =
  spec_l1Factors.Z8 N a e b c d (fun a b c d => K (.exit 0) (f94s2 a b c d)) :=
 viaLoopS (by kernel_rfl) (f94t8L N (joinK (some f94l2) K) N a e b c d) (by kernel_rfl)
def f94p7 : Plan := .mk (some f94l2) none f94p8 .n
theorem f94t7 N a e b c d (K : KT ρ) : f94i N (f94c 27) f94p7 (f94s3 a e b c d) (joinK (some f94l2) K) =
  spec_l1Factors.Z7 N a e b c d (fun a b c d => K .nrm (f94s2 a b c d)) :=
 viaBlockS (by kernel_rfl) (f94t8 N (K := blockK 0 (joinK (some f94l2) K)) ..) (by kernel_rfl)
def f94p5 : Plan := .mk (some f94l3) none .n f94p7
theorem f94t5 N a b c d (K : KT ρ) : f94i N (f94c 11) f94p5 (f94s2 a b c d) (joinK (some f94l2) K) =
  spec_l1Factors.Z5 N a b c d (fun a b c d => K .nrm (f94s2 a b c d)) :=
 viaSeqS (fun k => spec_l1Factors.Z6 N a b c d k) (by kernel_rfl) (f94t6 N (K := seqK (fun σ => f94i N (f94c 27) f94p7 σ (joinK (some f94l2) K)) (joinK (some f94l2) K)) ..) (fx5 fun a e b c d => f94t7 N a e b c d K) (by kernel_rfl)
theorem f94t41 N a b c d (K : KT ρ) : f94i N (f94c 39) .n (f94s2 a b c d) (joinK (some f94l10) K) =
 spec_l1Factors.Z41 N a b c d (fun a e b c d => K .nrm (f94s10 a e b c d)) := by kernel_rfl
theorem f94t45 N a b c d e (K : KT ρ) : f94i N (f94c 279) .n (f94s10 a b c d e) (joinK (some f94l10) K) =
 spec_l1Factors.Z45 N a b c d e (fun a b c d e => K .nrm (f94s10 a b c d e)) (fun a => K (.exit 8) (f94s12 a)) := by kernel_rfl
theorem f94t49 N a b c d e (K : KT ρ) : f94i N (f94c 2199) .n (f94s10 a b c d e) (joinK (some f94l11) K) =
 spec_l1Factors.Z49 N a b c d e (fun a b f c d e => K .nrm (f94s11 a b f c d e)) := by kernel_rfl
theorem f94t52 N a b f c d e (K : KT ρ) : f94i N (f94c 9367) .n (f94s11 a b f c d e) (joinK (some f94l11) K) =
 spec_l1Factors.Z52 N a b f c d e (fun a b f c d e => K .nrm (f94s11 a b f c d e)) (fun a b c d e => K (.exit 10) (f94s10 a b c d e)) (fun g h => K .ret (f94s13 g h)) := by kernel_rfl
def f94p51 : Plan := .mk none (some f94l11) .n .n
abbrev f94w51 {ρ : Type} (N M : Nat) (σ : St) (K : KT ρ) : Option ρ := loopC (fun σ K => f94i N (f94c 9367) .n σ K) f94l11 M σ K
theorem f94t51L {ρ : Type} (N : Nat) (K : KT ρ) : ∀ (M : Nat) (a : LI) (b f c d : Int) (e : LI), f94w51 N M (f94s11 a b f c d e) K =
 spec_l1Factors.Z51L N (fun a b c d e => K (.exit 10) (f94s10 a b c d e)) (fun g h => K .ret (f94s13 g h)) M a b f c d e
 | 0, _, _, _, _, _, _ => rfl
 | M + 1, a, b, f, c, d, e => viaRoundS (fun k => spec_l1Factors.Z52 N a b f c d e k (fun a b c d e => K (.exit 10) (f94s10 a b c d e)) (fun g h => K .ret (f94s13 g h))) (f94t52 N (K := seqK (fun σ => f94w51 N M σ K) K) ..) (fx6 fun a b f c d e => f94t51L N K M a b f c d e) (by kernel_rfl)
theorem f94t51 N a b f c d e (K : KT ρ) : f94i N (f94c 5271) f94p51 (f94s11 a b f c d e) (joinK (some f94l10) K) =
  spec_l1Factors.Z51 N a b f c d e (fun a b c d e => K (.exit 10) (f94s10 a b c d e)) (fun g h => K .ret (f94s13 g h)) :=
 viaLoopS (by kernel_rfl) (f94t51L N (joinK (some f94l10) K) N a b f c d e) (by kernel_rfl)
def f94p50 : Plan := .mk (some f94l10) none f94p51 .n
theorem f94t50 N a b f c d e (K : KT ρ) : f94i N (f94c 3223) f94p50 (f94s11 a b f c d e) (joinK (some f94l10) K) =
  spec_l1Factors.Z50 N a b f c d e (fun a b c d e => K .nrm (f94s10 a b c d e)) (fun g h => K .ret (f94s13 g h)) :=
 viaBlockS (by kernel_rfl) (f94t51 N (K := blockK 10 (joinK (some f94l10) K)) ..) (by kernel_rfl)
def f94p48 : Plan := .mk (some f94l11) none .n f94p50
theorem f94t48 N a b c d e (K : KT ρ) : f94i N (f94c 1175) f94p48 (f94s10 a b c d e) (joinK (some f94l10) K) =
  spec_l1Factors.Z48 N a b c d e (fun a b c d e => K .nrm (f94s10 a b c d e)) (fun f g => K .ret (f94s13 f g)) :=
 viaSeqS (fun k => spec_l1Factors.Z49 N a b c d e k) (by kernel_rfl) (f94t49 N (K := seqK (fun σ => f94i N (f94c 3223) f94p50 σ (joinK (some f94l10) K)) (joinK (some f94l10) K)) ..) (fx6 fun a b h c d e => f94t50 N a b h c d e K) (by kernel_rfl)
def f94p47 : Plan := .mk (some f94l10) none f94p48 .n
theorem f94t47 N a b c d e (K : KT ρ) : f94i N (f94c 663) f94p47 (f94s10 a b c d e) (joinK (some f94l10) K) =
  spec_l1Factors.Z47 N a b c d e (fun a b c d e => K .nrm (f94s10 a b c d e)) (fun f g => K .ret (f94s13 f g)) :=
 viaBlockS (by kernel_rfl) (f94t48 N (K := blockK 9 (joinK (some f94l10) K)) ..) (by kernel_rfl)
theorem f94t53 N a b c d e (K : KT ρ) : f94i N (f94c 919) .n (f94s10 a b c d e) (joinK (some f94l10) K) =
 spec_l1Factors.Z53 N a b c d e (fun a b c d e => K .nrm (f94s10 a b c d e)) := by kernel_rfl
def f94p46 : Plan := .mk (some f94l10) none f94p47 .n
theorem f94t46 N a b c d e (K : KT ρ) : f94i N (f94c 407) f94p46 (f94s10 a b c d e) (joinK (some f94l10) K) =
  spec_l1Factors.Z46 N a b c d e (fun a b c d e => K .nrm (f94s10 a b c d e)) (fun f g => K .ret (f94s13 f g)) :=
 viaSeqS (fun k => spec_l1Factors.Z47 N a b c d e k (fun f g => K .ret (f94s13 f g))) (by kernel_rfl) (f94t47 N (K := seqK (fun σ => f94i N (f94c 919) .n σ (joinK (some f94l10) K)) (joinK (some f94l10) K)) ..) (fx5 fun a b c d e => f94t53 N a b c d e K) (by kernel_rfl)
def f94p44 : Plan := .mk (some f94l10) none .n f94p46
theorem f94t44 N a b c d e (K : KT ρ) : f94i N (f94c 151) f94p44 (f94s10 a b c d e) (joinK (some f94l10) K) =
  spec_l1Factors.Z44 N a b c d e (fun a b c d e => K .nrm (f94s10 a b c d e)) (fun a => K (.exit 8) (f94s12 a)) (fun f g => K .ret (f94s13 f g)) :=
 viaSeqS (fun k => spec_l1Factors.Z45 N a b c d e k (fun a => K (.exit 8) (f94s12 a))) (by kernel_rfl) (f94t45 N (K := seqK (fun σ => f94i N (f94c 407) f94p46 σ (joinK (some f94l10) K)) (joinK (some f94l10) K)) ..) (fx5 fun a b c d e => f94t46 N a b c d e K) (by kernel_rfl)
def f94p43 : Plan := .mk none (some f94l10) f94p44 .n
abbrev f94w43 {ρ : Type} (N M : Nat) (σ : St) (K : KT ρ) : Option ρ := loopC (fun σ K => f94i N (f94c 151) f94p44 σ K) f94l10 M σ K
theorem f94t43L {ρ : Type} (N : Nat) (K : KT ρ) : ∀ (M : Nat) (a : LI) (b c d : Int) (e : LI), f94w43 N M (f94s10 a b c d e) K =
 spec_l1Factors.Z43L N (fun a => K (.exit 8) (f94s12 a)) (fun f g => K .ret (f94s13 f g)) M a b c d e
 | 0, _, _, _, _, _ => rfl
 | M + 1, a, b, c, d, e => viaRoundS (fun k => spec_l1Factors.Z44 N a b c d e k (fun a => K (.exit 8) (f94s12 a)) (fun f g => K .ret (f94s13 f g))) (f94t44 N (K := seqK (fun σ => f94w43 N M σ K) K) ..) (fx5 fun a b c d e => f94t43L N K M a b c d e) (by kernel_rfl)
theorem f94t43 N a b c d e (K : KT ρ) : f94i N (f94c 87) f94p43 (f94s10 a b c d e) (joinK (some f94l12) K) =
  spec_l1Factors.Z43 N a b c d e (fun a => K (.exit 8) (f94s12 a)) (fun f g => K .ret (f94s13 f g)) :=
 viaLoopS (by kernel_rfl) (f94t43L N (joinK (some f94l12) K) N a b c d e) (by kernel_rfl)
def f94p42 : Plan := .mk (some f94l12) none f94p43 .n
theorem f94t42 N a b c d e (K : KT ρ) : f94i N (f94c 55) f94p42 (f94s10 a b c d e) (joinK (some f94l12) K) =
  spec_l1Factors.Z42 N a b c d e (fun a => K .nrm (f94s12 a)) (fun f g => K .ret (f94s13 f g)) :=
 viaBlockS (by kernel_rfl) (f94t43 N (K := blockK 8 (joinK (some f94l12) K)) ..) (by kernel_rfl)
def f94p40 : Plan := .mk (some f94l10) none .n f94p42
theorem f94t40 N a b c d (K : KT ρ) : f94i N (f94c 23) f94p40 (f94s2 a b c d) (joinK (some f94l12) K) =
  spec_l1Factors.Z40 N a b c d (fun a => K .nrm (f94s12 a)) (fun e f => K .ret (f94s13 e f)) :=
 viaSeqS (fun k => spec_l1Factors.Z41 N a b c d k) (by kernel_rfl) (f94t41 N (K := seqK (fun σ => f94i N (f94c 55) f94p42 σ (joinK (some f94l12) K)) (joinK (some f94l12) K)) ..) (fx5 fun a g b c d => f94t42 N a g b c d K) (by kernel_rfl)
theorem f94t54 N a (K : KT ρ) : f94i N (f94c 31) .n (f94s12 a) (joinK (some f94lE) K) =
 spec_l1Factors.Z54 N a (fun b c => K .ret (f94s13 b c)) := by kernel_rfl
def f94p39 : Plan := .mk (some f94l12) none f94p40 .n
theorem f94t39 N a b c d (K : KT ρ) : f94i N (f94c 15) f94p39 (f94s2 a b c d) (joinK (some f94lE) K) =
  spec_l1Factors.Z39 N a b c d (fun e f => K .ret (f94s13 e f)) :=
 viaSeqS (fun k => spec_l1Factors.Z40 N a b c d k (fun e f => K .ret (f94s13 e f))) (by kernel_rfl) (f94t40 N (K := seqK (fun σ => f94i N (f94c 31) .n σ (joinK (some f94lE) K)) (joinK (some f94lE) K)) ..) (funext fun a => f94t54 N a K) (by kernel_rfl)
def f94p4 : Plan := .mk (some f94l2) none f94p5 f94p39
theorem f94t4 N a b c d (K : KT ρ) : f94i N (f94c 7) f94p4 (f94s2 a b c d) (joinK (some f94lE) K) =
  spec_l1Factors.Z4 N a b c d (fun e f => K .ret (f94s13 e f)) :=
 viaSeqS (fun k => spec_l1Factors.Z5 N a b c d k) (by kernel_rfl) (f94t5 N (K := seqK (fun σ => f94i N (f94c 15) f94p39 σ (joinK (some f94lE) K)) (joinK (some f94lE) K)) ..) (fx4 fun a b c d => f94t39 N a b c d K) (by kernel_rfl)
def f94p2 : Plan := .mk (some f94l2) none .n f94p4
theorem f94t2 N a b c (K : KT ρ) : f94i N (f94c 3) f94p2 (f94s1 a b c) (joinK (some f94lE) K) =
  spec_l1Factors.Z2 N a b c (fun d e => K .ret (f94s13 d e)) :=
 viaSeqS (fun k => spec_l1Factors.Z3 N a b c k) (by kernel_rfl) (f94t3 N (K := seqK (fun σ => f94i N (f94c 7) f94p4 σ (joinK (some f94lE) K)) (joinK (some f94lE) K)) ..) (fx4 fun f a b c => f94t4 N f a b c K) (by kernel_rfl)
def f94p0 : Plan := .mk (some f94l1) none .n f94p2
theorem f94t0 N a (K : KT ρ) : f94i N (f94c 1) f94p0 (f94s0 a) (joinK (some f94lE) K) =
  spec_l1Factors.Z0 N a (fun b c => K .ret (f94s13 b c)) :=
 viaSeqS (fun k => spec_l1Factors.Z1 N a k) (by kernel_rfl) (f94t1 N (K := seqK (fun σ => f94i N (f94c 3) f94p2 σ (joinK (some f94lE) K)) (joinK (some f94lE) K)) ..) (fx3 fun d e f => f94t2 N d e f K) (by kernel_rfl)
theorem f94m (N : Nat) (a : MT) : f94i N (f94c 1) f94p0 (f94s0 a) (joinK (some f94lE) (finK tab f94sig Try.f94.results.toList)) = spec_l1Factors.Z0 N a (fun b c => some ((), (b, (c, ())))) :=
 (f94t0 N a (finK tab f94sig Try.f94.results.toList)).trans (by kernel_rfl)
theorem f94ok (h : spec_l1Factors.Spec) : EntryOk Try.prog 94 e94 :=
 entry_of_code (sig := f94sig) (c := (f94c 1)) (pl := f94p0) (je := (some f94lE)) (B := f94B) Try.func94 (by kernel_rfl) (by kernel_rfl) (by kernel_rfl) tabOk f94GOk (by kernel_rfl) (by kernel_rfl) (by kernel_rfl) (by kernel_rfl) fun X hb hp => by
  obtain ⟨a, _⟩ := X
  obtain ⟨N, h⟩ := h a hb.1 hp
  exact ⟨N, (f94m N a).trans (h N (Nat.le_refl N))⟩
theorem e94ok : EntryOk Try.prog 94 e94 := f94ok spec_l1Factors.ok
end Go.Fw
namespace Go.Fw
variable {ρ : Type}
open Go.Proofs
def f51sig : Sig := ⟨[⟨.pair (.int .i64) (.pair (.int .i64) (.sl 3 (.int .i64))), true, false⟩], [⟨.bool, false, false⟩]⟩
def e51 : Entry := ⟨f51sig, none, fun X => ((), ((spec_MatrixOk.g X.1), ()))⟩
def f51G : Gm := addG (addG emptyG 74 e74) 94 e94
theorem f51GOk : GOk Try.prog f51G := ((GOk.nil).add e74ok (by kernel_rfl)).add e94ok (by kernel_rfl)
def f51lE : Clean := ⟨[], [], [], [], []⟩
def f51s0 (a : MT) : St := initSt f51sig.ps (a, ())
def f51s1 (a : Bool) : St := stOf [(2, xB a)] [] []
def f51l1 : Clean := ⟨[2], [], [], [], []⟩
def f51B : Nat → Option Clean := lookL [(1000000, f51l1)]
abbrev f51i {ρ : Type} (N : Nat) (c : Code) (p : Plan) (σ : St) (K : KT ρ) : Option ρ := iCode f51G tab f51B N c p σ K
def f51c (n : Nat) : Code := codeN 99 (bodyOf Try.f51) n
theorem f51t0 N a (K : KT ρ) : f51i N (f51c 1) .n (f51s0 a) (joinK (some f51lE) K) =
 spec_MatrixOk.Z0 N a (fun b => K .ret (f51s1 b)) := by kernel_rfl
theorem f51m (N : Nat) (a : MT) : f51i N (f51c 1) .n (f51s0 a) (joinK (some f51lE) (finK tab f51sig Try.f51.results.toList)) = spec_MatrixOk.Z0 N a (fun b => some ((), (b, ()))) :=
 (f51t0 N a (finK tab f51sig Try.f51.results.toList)).trans (by kernel_rfl)
theorem f51ok (h : spec_MatrixOk.Spec) : EntryOk Try.prog 51 e51 :=
 entry_of_code (sig := f51sig) (c := (f51c 1)) (pl := .n) (je := (some f51lE)) (B := f51B) Try.func51 (by kernel_rfl) (by kernel_rfl) (by kernel_rfl) tabOk f51GOk (by kernel_rfl) (by kernel_rfl) (by kernel_rfl) (by kernel_rfl) fun X hb hp => by
  obtain ⟨a, _⟩ := X
  obtain ⟨N, h⟩ := h a hb.1
  exact ⟨N, (f51m N a).trans (h N (Nat.le_refl N))⟩
theorem e51ok : EntryOk Try.prog 51 e51 := f51ok spec_MatrixOk.ok
end Go.Fw
namespace Go.Fw
variable {ρ : Type}
open Go.Proofs
def f92sig : Sig := ⟨[⟨.sl 3 (.int .i64), false, false⟩], [⟨.sl 3 (.int .i64), false, false⟩]⟩
def e92 : Entry := ⟨f92sig, (some fun X => spec_l1Ints.P X.1), fun X => ((), ((spec_l1Ints.g X.1), ()))⟩
def f92G : Gm := emptyG
theorem f92GOk : GOk Try.prog f92G := GOk.nil
def f92lE : Clean := ⟨[], [], [], [], []⟩
def f92s0 (a : LI) : St := initSt f92sig.ps (a, ())
def f92s1 (a : LI) : St := stOf [(2, xo 1000128)] [] [(1000128, (⟨3, .int .i64, a, true, false⟩ : Row))]
def f92l1 : Clean := ⟨[2], [], [], [], [(⟨false, 2, 0⟩, 1000128)]⟩
def f92B : Nat → Option Clean := lookL [(1000000, f92l1)]
abbrev f92i {ρ : Type} (N : Nat) (c : Code) (p : Plan) (σ : St) (K : KT ρ) : Option ρ := iCode f92G tab f92B N c p σ K
def f92c (n : Nat) : Code := codeN 99 (bodyOf Try.f92) n
theorem f92t0 N a (K : KT ρ) : f92i N (f92c 1) .n (f92s0 a) (joinK (some f92lE) K) =
 spec_l1Ints.Z0 N a (fun b => K .ret (f92s1 b)) := by kernel_rfl
theorem f92m (N : Nat) (a : LI) : f92i N (f92c 1) .n (f92s0 a) (joinK (some f92lE) (finK tab f92sig Try.f92.results.toList)) = spec_l1Ints.Z0 N a (fun b => some ((), (b, ()))) :=
 (f92t0 N a (finK tab f92sig Try.f92.results.toList)).trans (by kernel_rfl)
theorem f92ok (h : spec_l1Ints.Spec) : EntryOk Try.prog 92 e92 :=
 entry_of_code (sig := f92sig) (c := (f92c 1)) (pl := .n) (je := (some f92lE)) (B := f92B) Try.func92 (by kernel_rfl) (by kernel_rfl) (by kernel_rfl) tabOk f92GOk (by kernel_rfl) (by kernel_rfl) (by kernel_rfl) (by kernel_rfl) fun X hb hp => by
  obtain ⟨a, _⟩ := X
  obtain ⟨N, h⟩ := h a hb.1 hp
  exact ⟨N, (f92m N a).trans (h N (Nat.le_refl N))⟩
theorem e92ok : EntryOk Try.prog 92 e92 := f92ok spec_l1Ints.ok
end Go.Fw
namespace Go.Fw
variable {ρ : Type}
open Go.Proofs
def f102sig : Sig := ⟨[⟨.pair (.int .i64) (.pair (.int .i64) (.sl 3 (.int .i64))), true, false⟩], [⟨.pair (.int .i64) (.pair (.int .i64) (.sl 3 (.int .i64))), true, false⟩]⟩
def e102 : Entry := ⟨f102sig, (some fun X => spec_l1CopyMatrix.P X.1), fun X => ((), ((spec_l1CopyMatrix.g X.1), ()))⟩
def f102G : Gm := addG emptyG 92 e92
theorem f102GOk : GOk Try.prog f102G := (GOk.nil).add e92ok (by kernel_rfl)
def f102lE : Clean := ⟨[], [], [], [], []⟩
def f102s0 (a : MT) : St := initSt f102sig.ps (a, ())
def f102s1 (a : LI) (b c : Int) : St := stOf [(2, xb 2)] [(2, (30, [yi b, yi c, .own 20000130]))] [(20000130, (⟨3, .int .i64, a, true, false⟩ : Row))]
def f102l1 : Clean := ⟨[2], [2], [], [], [(⟨true, 2, 2⟩, 20000130)]⟩
def f102B : Nat → Option Clean := lookL [(1000000, f102l1)]
abbrev f102i {ρ : Type} (N : Nat) (c : Code) (p : Plan) (σ : St) (K : KT ρ) : Option ρ := iCode f102G tab f102B N c p σ K
def f102c (n : Nat) : Code := codeN 99 (bodyOf Try.f102) n
theorem f102t0 N a (K : KT ρ) : f102i N (f102c 1) .n (f102s0 a) (joinK (some f102lE) K) =
 spec_l1CopyMatrix.Z0 N a (fun b c d => K .ret (f102s1 b c d)) := by kernel_rfl
theorem f102m (N : Nat) (a : MT) : f102i N (f102c 1) .n (f102s0 a) (joinK (some f102lE) (finK tab f102sig Try.f102.results.toList)) = spec_l1CopyMatrix.Z0 N a (fun b c d => some ((), ((c, (d, b)), ()))) :=
 (f102t0 N a (finK tab f102sig Try.f102.results.toList)).trans (by kernel_rfl)
theorem f102ok (h : spec_l1CopyMatrix.Spec) : EntryOk Try.prog 102 e102 :=
 entry_of_code (sig := f102sig) (c := (f102c 1)) (pl := .n) (je := (some f102lE)) (B := f102B) Try.func102 (by kernel_rfl) (by kernel_rfl) (by kernel_rfl) tabOk f102GOk (by kernel_rfl) (by kernel_rfl) (by kernel_rfl) (by kernel_rfl) fun X hb hp => by
  obtain ⟨a, _⟩ := X
  obtain ⟨N, h⟩ := h a hb.1 hp
  exact ⟨N, (f102m N a).trans (h N (Nat.le_refl N))⟩
theorem e102ok : EntryOk Try.prog 102 e102 := f102ok spec_l1CopyMatrix.ok
end Go.Fw
namespace Go.Fw
variable {ρ : Type}
open Go.Proofs
def f73sig : Sig := ⟨[⟨.pair (.int .i64) (.pair (.int .i64) (.sl 3 (.int .i64))), true, false⟩, ⟨.int .i64, false, false⟩], [⟨.pair (.int .i64) (.pair (.int .i64) (.sl 3 (.int .i64))), true, false⟩]⟩
def e73 : Entry := ⟨f73sig, (some fun X => spec_l1Mutate.P X.1 X.2.1), fun X => ((), ((spec_l1Mutate.g X.1 X.2.1), ()))⟩
def f73G : Gm := addG (addG emptyG 80 e80) 102 e102
theorem f73GOk : GOk Try.prog f73G := ((GOk.nil).add e80ok (by kernel_rfl)).add e102ok (by kernel_rfl)
def f73lE : Clean := ⟨[], [], [], [], []⟩
def f73s0 (a : MT) (b : Int) : St := initSt f73sig.ps (a, (b, ()))
def f73s1 (a b c : Int) (d : LI) (e f : Int) : St := stOf [(1, xi a), (2, xb 2), (4, xb 4)] [(2, (30, [yi b, yi c, .sn 3 tI d none])), (4, (30, [yi e, yi f, .nil]))] []
def f73l1 : Clean := ⟨[1, 2, 4], [2, 4], [], [], []⟩
def f73s2 (a : LI) (b c d : Int) (e : LI) (f g h i : Int) : St := stOf [(1, xi b), (2, xb 2), (4, xb 4), (5, xb 5)] [(2, (30, [yi c, yi d, .sn 3 tI e none])), (4, (30, [yi f, yi g, .nil])), (5, (30, [yi h, yi i, .own 20000322]))] [(20000322, (⟨3, .int .i64, a, true, false⟩ : Row))]
def f73l2 : Clean := ⟨[1, 2, 4, 5], [2, 4, 5], [], [], [(⟨true, 5, 2⟩, 20000322)]⟩
def f73s3 (a : LI) (b c d e : Int) (f : LI) (g h i j : Int) : St := stOf [(1, xi b), (2, xb 2), (4, xb 4), (5, xb 5), (6, xi c)] [(2, (30, [yi d, yi e, .sn 3 tI f none])), (4, (30, [yi g, yi h, .nil])), (5, (30, [yi i, yi j, .own 20000322]))] [(20000322, (⟨3, .int .i64, a, true, false⟩ : Row))]
def f73l3 : Clean := ⟨[1, 2, 4, 5, 6], [2, 4, 5], [], [], [(⟨true, 5, 2⟩, 20000322)]⟩
def f73s4 (a : LI) (b c d e f : Int) (g : LI) (h i j l : Int) : St := stOf [(1, xi b), (2, xb 2), (4, xb 4), (5, xb 5), (6, xi c), (7, xi d)] [(2, (30, [yi e, yi f, .sn 3 tI g none])), (4, (30, [yi h, yi i, .nil])), (5, (30, [yi j, yi l, .own 20000322]))] [(20000322, (⟨3, .int .i64, a, true, false⟩ : Row))]
def f73l4 : Clean := ⟨[1, 2, 4, 5, 6, 7], [2, 4, 5], [], [], [(⟨true, 5, 2⟩, 20000322)]⟩
def f73s5 (a : LI) (b c d e f g : Int) (h : LI) (i j l m : Int) : St := stOf [(1, xi b), (2, xb 2), (4, xb 4), (5, xb 5), (6, xi c), (7, xi d), (8, xi e)] [(2, (30, [yi f, yi g, .sn 3 tI h none])), (4, (30, [yi i, yi j, .nil])), (5, (30, [yi l, yi m, .own 20000322]))] [(20000322, (⟨3, .int .i64, a, true, false⟩ : Row))]
def f73l5 : Clean := ⟨[1, 2, 4, 5, 6, 7, 8], [2, 4, 5], [], [], [(⟨true, 5, 2⟩, 20000322)]⟩
def f73s6 (a : LI) (b c d e f g h : Int) (i : LI) (j l m o : Int) : St := stOf [(1, xi b), (2, xb 2), (4, xb 4), (5, xb 5), (6, xi c), (7, xi d), (8, xi e), (9, xi f)] [(2, (30, [yi g, yi h, .sn 3 tI i none])), (4, (30, [yi j, yi l, .nil])), (5, (30, [yi m, yi o, .own 20000322]))] [(20000322, (⟨3, .int .i64, a, true, false⟩ : Row))]
def f73l6 : Clean := ⟨[1, 2, 4, 5, 6, 7, 8, 9], [2, 4, 5], [], [], [(⟨true, 5, 2⟩, 20000322)]⟩
def f73s7 (a : LI) (b c d e f : Int) (g : Bool) (h i : Int) (j : LI) (l m o p : Int) : St := stOf [(1, xi b), (2, xb 2), (4, xb 4), (5, xb 5), (6, xi c), (7, xi d), (8, xi e), (9, xi f), (32, xB g)] [(2, (30, [yi h, yi i, .sn 3 tI j none])), (4, (30, [yi l, yi m, .nil])), (5, (30, [yi o, yi p, .own 20000322]))] [(20000322, (⟨3, .int .i64, a, true, false⟩ : Row))]
def f73l7 : Clean := ⟨[1, 2, 4, 5, 6, 7, 8, 9, 32], [2, 4, 5], [], [], [(⟨true, 5, 2⟩, 20000322)]⟩
def f73s8 (a : LI) (b c d e : Int) : St := stOf [(4, xb 4), (5, xb 5)] [(4, (30, [yi b, yi c, .nil])), (5, (30, [yi d, yi e, .own 20000322]))] [(20000322, (⟨3, .int .i64, a, true, false⟩ : Row))]
def f73l8 : Clean := ⟨[4, 5], [4, 5], [], [], [(⟨true, 5, 2⟩, 20000322)]⟩
def f73s9 (a : LI) (b c : Int) : St := stOf [(4, xb 4)] [(4, (30, [yi b, yi c, .own 20000258]))] [(20000258, (⟨3, .int .i64, a, true, false⟩ : Row))]
def f73l9 : Clean := ⟨[4], [4], [], [], [(⟨true, 4, 2⟩, 20000258)]⟩
def f73B : Nat → Option Clean := lookL [(4, f73l4), (3, f73l4), (2, f73l3), (1, f73l3), (0, f73l8), (1000000, f73l9)]
abbrev f73i {ρ : Type} (N : Nat) (c : Code) (p : Plan) (σ : St) (K : KT ρ) : Option ρ := iCode f73G tab f73B N c p σ K
def f73c (n : Nat) : Code := codeN 99 (bodyOf Try.f73) n
theorem f73t1 N b a (K : KT ρ) : f73i N (f73c 2) .n (f73s0 b a) (joinK (some f73l1) K) =
 spec_l1Mutate.Z1 N b a (fun a c d e f g => K .nrm (f73s1 a c d e f g)) := by kernel_rfl
theorem f73t3 N a b c d e f (K : KT ρ) : f73i N (f73c 5) .n (f73s1 a b c d e f) (joinK (some f73l2) K) =
 spec_l1Mutate.Z3 N a b c d e f (fun g a b c d e f h i => K .nrm (f73s2 g a b c d e f h i)) := by kernel_rfl
theorem f73t6 N a b c d e f g h i (K : KT ρ) : f73i N (f73c 19) .n (f73s2 a b c d e f g h i) (joinK (some f73l3) K) =
 spec_l1Mutate.Z6 N a b c d e f g h i (fun a b j c d e f g h i => K .nrm (f73s3 a b j c d e f g h i)) := by kernel_rfl
theorem f73t10 N a f g h i j b c d e (K : KT ρ) : f73i N (f73c 139) .n (f73s3 a f g h i j b c d e) (joinK (some f73l3) K) =
 spec_l1Mutate.Z10 N a f g h i j b c d e (fun a f g h i j b c d e => K .nrm (f73s3 a f g h i j b c d e)) (fun a b c d e => K (.exit 0) (f73s8 a b c d e)) := by kernel_rfl
theorem f73t14 N a b c d e f g h i j (K : KT ρ) : f73i N (f73c 1099) .n (f73s3 a b c d e f g h i j) (joinK (some f73l4) K) =
 spec_l1Mutate.Z14 N a b c d e f g h i j (fun a b c l d e f g h i j => K .nrm (f73s4 a b c l d e f g h i j)) := by kernel_rfl
theorem f73t18 N a b c l d e f g h i j (K : KT ρ) : f73i N (f73c 8779) .n (f73s4 a b c l d e f g h i j) (joinK (some f73l4) K) =
 spec_l1Mutate.Z18 N a b c l d e f g h i j (fun a b c l d e f g h i j => K .nrm (f73s4 a b c l d e f g h i j)) (fun a b c d e f g h i j => K (.exit 2) (f73s3 a b c d e f g h i j)) := by kernel_rfl
theorem f73t22 N a b c d e f g h i j l (K : KT ρ) : f73i N (f73c 70219) .n (f73s4 a b c d e f g h i j l) (joinK (some f73l5) K) =
 spec_l1Mutate.Z22 N a b c d e f g h i j l (fun a b c d m e f g h i j l => K .nrm (f73s5 a b c d m e f g h i j l)) := by kernel_rfl
theorem f73t24 N a b c d e f g h i j l m (K : KT ρ) : f73i N (f73c 168523) .n (f73s5 a b c d e f g h i j l m) (joinK (some f73l6) K) =
 spec_l1Mutate.Z24 N a b c d e f g h i j l m (fun a b c d e o f g h i j l m => K .nrm (f73s6 a b c d e o f g h i j l m)) := by kernel_rfl
theorem f73t27 N a b c d e f g h i j l m o (K : KT ρ) : f73i N (f73c 627275) .n (f73s6 a b c d e f g h i j l m o) (joinK (some f73l7) K) =
 spec_l1Mutate.Z27 N a b c d e f g h i j l m o (fun a b c d e f p g h i j l m o => K .nrm (f73s7 a b c d e f p g h i j l m o)) := by kernel_rfl
theorem f73t28 N a b c d m o p e f g h i j l (K : KT ρ) : f73i N (f73c 889419) .n (f73s7 a b c d m o p e f g h i j l) (joinK (some f73l4) K) =
 spec_l1Mutate.Z28 N a b c d m o p e f g h i j l (fun a b c d e f g h i j l => K .nrm (f73s4 a b c d e f g h i j l)) := by kernel_rfl
def f73p26 : Plan := .mk (some f73l7) none .n .n
theorem f73t26 N a b c d m o e f g h i j l (K : KT ρ) : f73i N (f73c 365131) f73p26 (f73s6 a b c d m o e f g h i j l) (joinK (some f73l4) K) =
  spec_l1Mutate.Z26 N a b c d m o e f g h i j l (fun a b c d e f g h i j l => K .nrm (f73s4 a b c d e f g h i j l)) :=
 viaSeqS (fun k => spec_l1Mutate.Z27 N a b c d m o e f g h i j l k) (by kernel_rfl) (f73t27 N (K := seqK (fun σ => f73i N (f73c 889419) .n σ (joinK (some f73l4) K)) (joinK (some f73l4) K)) ..) (fx14 fun a b c d m o p e f g h i j l => f73t28 N a b c d m o p e f g h i j l K) (by kernel_rfl)
def f73p25 : Plan := .mk (some f73l4) none f73p26 .n
theorem f73t25 N a b c d m o e f g h i j l (K : KT ρ) : f73i N (f73c 234059) f73p25 (f73s6 a b c d m o e f g h i j l) (joinK (some f73l4) K) =
  spec_l1Mutate.Z25 N a b c d m o e f g h i j l (fun a b c d e f g h i j l => K .nrm (f73s4 a b c d e f g h i j l)) :=
 viaBlockS (by kernel_rfl) (f73t26 N (K := blockK 4 (joinK (some f73l4) K)) ..) (by kernel_rfl)
def f73p23 : Plan := .mk (some f73l6) none .n f73p25
theorem f73t23 N a b c d m e f g h i j l (K : KT ρ) : f73i N (f73c 102987) f73p23 (f73s5 a b c d m e f g h i j l) (joinK (some f73l4) K) =
  spec_l1Mutate.Z23 N a b c d m e f g h i j l (fun a b c d e f g h i j l => K .nrm (f73s4 a b c d e f g h i j l)) :=
 viaSeqS (fun k => spec_l1Mutate.Z24 N a b c d m e f g h i j l k) (by kernel_rfl) (f73t24 N (K := seqK (fun σ => f73i N (f73c 234059) f73p25 σ (joinK (some f73l4) K)) (joinK (some f73l4) K)) ..) (fx13 fun a b c d m o e f g h i j l => f73t25 N a b c d m o e f g h i j l K) (by kernel_rfl)
def f73p21 : Plan := .mk (some f73l5) none .n f73p23
theorem f73t21 N a b c d e f g h i j l (K : KT ρ) : f73i N (f73c 37451) f73p21 (f73s4 a b c d e f g h i j l) (joinK (some f73l4) K) =
  spec_l1Mutate.Z21 N a b c d e f g h i j l (fun a b c d e f g h i j l => K .nrm (f73s4 a b c d e f g h i j l)) :=
 viaSeqS (fun k => spec_l1Mutate.Z22 N a b c d e f g h i j l k) (by kernel_rfl) (f73t22 N (K := seqK (fun σ => f73i N (f73c 102987) f73p23 σ (joinK (some f73l4) K)) (joinK (some f73l4) K)) ..) (fx12 fun a b c d m e f g h i j l => f73t23 N a b c d m e f g h i j l K) (by kernel_rfl)
def f73p20 : Plan := .mk (some f73l4) none f73p21 .n
theorem f73t20 N a b c d e f g h i j l (K : KT ρ) : f73i N (f73c 21067) f73p20 (f73s4 a b c d e f g h i j l) (joinK (some f73l4) K) =
  spec_l1Mutate.Z20 N a b c d e f g h i j l (fun a b c d e f g h i j l => K .nrm (f73s4 a b c d e f g h i j l)) :=
 viaBlockS (by kernel_rfl) (f73t21 N (K := blockK 3 (joinK (some f73l4) K)) ..) (by kernel_rfl)
theorem f73t29 N a b c d e f g h i j l (K : KT ρ) : f73i N (f73c 29259) .n (f73s4 a b c d e f g h i j l) (joinK (some f73l4) K) =
 spec_l1Mutate.Z29 N a b c d e f g h i j l (fun a b c d e f g h i j l => K .nrm (f73s4 a b c d e f g h i j l)) := by kernel_rfl
def f73p19 : Plan := .mk (some f73l4) none f73p20 .n
theorem f73t19 N a b c d e f g h i j l (K : KT ρ) : f73i N (f73c 12875) f73p19 (f73s4 a b c d e f g h i j l) (joinK (some f73l4) K) =
  spec_l1Mutate.Z19 N a b c d e f g h i j l (fun a b c d e f g h i j l => K .nrm (f73s4 a b c d e f g h i j l)) :=
 viaSeqS (fun k => spec_l1Mutate.Z20 N a b c d e f g h i j l k) (by kernel_rfl) (f73t20 N (K := seqK (fun σ => f73i N (f73c 29259) .n σ (joinK (some f73l4) K)) (joinK (some f73l4) K)) ..) (fx11 fun a b c d e f g h i j l => f73t29 N a b c d e f g h i j l K) (by kernel_rfl)
def f73p17 : Plan := .mk (some f73l4) none .n f73p19
theorem f73t17 N a b c l d e f g h i j (K : KT ρ) : f73i N (f73c 4683) f73p17 (f73s4 a b c l d e f g h i j) (joinK (some f73l4) K) =
  spec_l1Mutate.Z17 N a b c l d e f g h i j (fun a b c l d e f g h i j => K .nrm (f73s4 a b c l d e f g h i j)) (fun a b c d e f g h i j => K (.exit 2) (f73s3 a b c d e f g h i j)) :=
 viaSeqS (fun k => spec_l1Mutate.Z18 N a b c l d e f g h i j k (fun a b c d e f g h i j => K (.exit 2) (f73s3 a b c d e f g h i j))) (by kernel_rfl) (f73t18 N (K := seqK (fun σ => f73i N (f73c 12875) f73p19 σ (joinK (some f73l4) K)) (joinK (some f73l4) K)) ..) (fx11 fun a b c l d e f g h i j => f73t19 N a b c l d e f g h i j K) (by kernel_rfl)
def f73p16 : Plan := .mk none (some f73l4) f73p17 .n
abbrev f73w16 {ρ : Type} (N M : Nat) (σ : St) (K : KT ρ) : Option ρ := loopC (fun σ K => f73i N (f73c 4683) f73p17 σ K) f73l4 M σ K
theorem f73t16L {ρ : Type} (N : Nat) (K : KT ρ) : ∀ (M : Nat) (a : LI) (b c l d e : Int) (f : LI) (g h i j : Int), f73w16 N M (f73s4 a b c l d e f g h i j) K =
 spec_l1Mutate.Z16L N (fun a b c d e f g h i j => K (.exit 2) (f73s3 a b c d e f g h i j)) M a b c l d e f g h i j
 | 0, _, _, _, _, _, _, _, _, _, _, _ => rfl
 | M + 1, a, b, c, l, d, e, f, g, h, i, j => viaRoundS (fun k => spec_l1Mutate.Z17 N a b c l d e f g h i j k (fun a b c d e f g h i j => K (.exit 2) (f73s3 a b c d e f g h i j))) (f73t17 N (K := seqK (fun σ => f73w16 N M σ K) K) ..) (fx11 fun a b c l d e f g h i j => f73t16L N K M a b c l d e f g h i j) (by kernel_rfl)
theorem f73t16 N a b c l d e f g h i j (K : KT ρ) : f73i N (f73c 2635) f73p16 (f73s4 a b c l d e f g h i j) (joinK (some f73l3) K) =
  spec_l1Mutate.Z16 N a b c l d e f g h i j (fun a b c d e f g h i j => K (.exit 2) (f73s3 a b c d e f g h i j)) :=
 viaLoopS (by kernel_rfl) (f73t16L N (joinK (some f73l3) K) N a b c l d e f g h i j) (by kernel_rfl)
def f73p15 : Plan := .mk (some f73l3) none f73p16 .n
theorem f73t15 N a b c l d e f g h i j (K : KT ρ) : f73i N (f73c 1611) f73p15 (f73s4 a b c l d e f g h i j) (joinK (some f73l3) K) =
  spec_l1Mutate.Z15 N a b c l d e f g h i j (fun a b c d e f g h i j => K .nrm (f73s3 a b c d e f g h i j)) :=
 viaBlockS (by kernel_rfl) (f73t16 N (K := blockK 2 (joinK (some f73l3) K)) ..) (by kernel_rfl)
def f73p13 : Plan := .mk (some f73l4) none .n f73p15
theorem f73t13 N a b c d e f g h i j (K : KT ρ) : f73i N (f73c 587) f73p13 (f73s3 a b c d e f g h i j) (joinK (some f73l3) K) =
  spec_l1Mutate.Z13 N a b c d e f g h i j (fun a b c d e f g h i j => K .nrm (f73s3 a b c d e f g h i j)) :=
 viaSeqS (fun k => spec_l1Mutate.Z14 N a b c d e f g h i j k) (by kernel_rfl) (f73t14 N (K := seqK (fun σ => f73i N (f73c 1611) f73p15 σ (joinK (some f73l3) K)) (joinK (some f73l3) K)) ..) (fx11 fun a b c l d e f g h i j => f73t15 N a b c l d e f g h i j K) (by kernel_rfl)
def f73p12 : Plan := .mk (some f73l3) none f73p13 .n
theorem f73t12 N a b c d e f g h i j (K : KT ρ) : f73i N (f73c 331) f73p12 (f73s3 a b c d e f g h i j) (joinK (some f73l3) K) =
  spec_l1Mutate.Z12 N a b c d e f g h i j (fun a b c d e f g h i j => K .nrm (f73s3 a b c d e f g h i j)) :=
 viaBlockS (by kernel_rfl) (f73t13 N (K := blockK 1 (joinK (some f73l3) K)) ..) (by kernel_rfl)
theorem f73t30 N a b c d e f g h i j (K : KT ρ) : f73i N (f73c 459) .n (f73s3 a b c d e f g h i j) (joinK (some f73l3) K) =
 spec_l1Mutate.Z30 N a b c d e f g h i j (fun a b c d e f g h i j => K .nrm (f73s3 a b c d e f g h i j)) := by kernel_rfl
def f73p11 : Plan := .mk (some f73l3) none f73p12 .n
theorem f73t11 N a b c d e f g h i j (K : KT ρ) : f73i N (f73c 203) f73p11 (f73s3 a b c d e f g h i j) (joinK (some f73l3) K) =
  spec_l1Mutate.Z11 N a b c d e f g h i j (fun a b c d e f g h i j => K .nrm (f73s3 a b c d e f g h i j)) :=
 viaSeqS (fun k => spec_l1Mutate.Z12 N a b c d e f g h i j k) (by kernel_rfl) (f73t12 N (K := seqK (fun σ => f73i N (f73c 459) .n σ (joinK (some f73l3) K)) (joinK (some f73l3) K)) ..) (fx10 fun a b c d e f g h i j => f73t30 N a b c d e f g h i j K) (by kernel_rfl)
def f73p9 : Plan := .mk (some f73l3) none .n f73p11
theorem f73t9 N a f g h i j b c d e (K : KT ρ) : f73i N (f73c 75) f73p9 (f73s3 a f g h i j b c d e) (joinK (some f73l3) K) =
  spec_l1Mutate.Z9 N a f g h i j b c d e (fun a f g h i j b c d e => K .nrm (f73s3 a f g h i j b c d e)) (fun a b c d e => K (.exit 0) (f73s8 a b c d e)) :=
 viaSeqS (fun k => spec_l1Mutate.Z10 N a f g h i j b c d e k (fun a b c d e => K (.exit 0) (f73s8 a b c d e))) (by kernel_rfl) (f73t10 N (K := seqK (fun σ => f73i N (f73c 203) f73p11 σ (joinK (some f73l3) K)) (joinK (some f73l3) K)) ..) (fx10 fun a f g h i j b c d e => f73t11 N a f g h i j b c d e K) (by kernel_rfl)
def f73p8 : Plan := .mk none (some f73l3) f73p9 .n
abbrev f73w8 {ρ : Type} (N M : Nat) (σ : St) (K : KT ρ) : Option ρ := loopC (fun σ K => f73i N (f73c 75) f73p9 σ K) f73l3 M σ K
theorem f73t8L {ρ : Type} (N : Nat) (K : KT ρ) : ∀ (M : Nat) (a : LI) (f g h i : Int) (j : LI) (b c d e : Int), f73w8 N M (f73s3 a f g h i j b c d e) K =
 spec_l1Mutate.Z8L N (fun a b c d e => K (.exit 0) (f73s8 a b c d e)) M a f g h i j b c d e
 | 0, _, _, _, _, _, _, _, _, _, _ => rfl
 | M + 1, a, f, g, h, i, j, b, c, d, e => viaRoundS (fun k => spec_l1Mutate.Z9 N a f g h i j b c d e k (fun a b c d e => K (.exit 0) (f73s8 a b c d e))) (f73t9 N (K := seqK (fun σ => f73w8 N M σ K) K) ..) (fx10 fun a f g h i j b c d e => f73t8L N K M a f g h i j b c d e) (by kernel_rfl)
theorem f73t8 N a f g h i j b c d e (K : KT ρ) : f73i N (f73c 43) f73p8 (f73s3 a f g h i j b c d e) (joinK (some f73l8) K) =
  spec_l1Mutate.Z8 N a f g h i j b c d e (fun a b c d e => K (.exit 0) (f73s8 a b c d e)) :=
 viaLoopS (by kernel_rfl) (f73t8L N (joinK (some f73l8) K) N a f g h i j b c d e) (by kernel_rfl)
def f73p7 : Plan := .mk (some f73l8) none f73p8 .n
theorem f73t7 N a f g h i j b c d e (K : KT ρ) : f73i N (f73c 27) f73p7 (f73s3 a f g h i j b c d e) (joinK (some f73l8) K) =
  spec_l1Mutate.Z7 N a f g h i j b c d e (fun a b c d e => K .nrm (f73s8 a b c d e)) :=
 viaBlockS (by kernel_rfl) (f73t8 N (K := blockK 0 (joinK (some f73l8) K)) ..) (by kernel_rfl)
def f73p5 : Plan := .mk (some f73l3) none .n f73p7
theorem f73t5 N a f g h i b c d e (K : KT ρ) : f73i N (f73c 11) f73p5 (f73s2 a f g h i b c d e) (joinK (some f73l8) K) =
  spec_l1Mutate.Z5 N a f g h i b c d e (fun a b c d e => K .nrm (f73s8 a b c d e)) :=
 viaSeqS (fun k => spec_l1Mutate.Z6 N a f g h i b c d e k) (by kernel_rfl) (f73t6 N (K := seqK (fun σ => f73i N (f73c 27) f73p7 σ (joinK (some f73l8) K)) (joinK (some f73l8) K)) ..) (fx10 fun a f j g h i b c d e => f73t7 N a f j g h i b c d e K) (by kernel_rfl)
theorem f73t31 N c a b d e (K : KT ρ) : f73i N (f73c 15) .n (f73s8 c a b d e) (joinK (some f73lE) K) =
 spec_l1Mutate.Z31 N c a b d e (fun f a b => K .ret (f73s9 f a b)) := by kernel_rfl
def f73p4 : Plan := .mk (some f73l8) none f73p5 .n
theorem f73t4 N c f g h i a b d e (K : KT ρ) : f73i N (f73c 7) f73p4 (f73s2 c f g h i a b d e) (joinK (some f73lE) K) =
  spec_l1Mutate.Z4 N c f g h i a b d e (fun j a b => K .ret (f73s9 j a b)) :=
 viaSeqS (fun k => spec_l1Mutate.Z5 N c f g h i a b d e k) (by kernel_rfl) (f73t5 N (K := seqK (fun σ => f73i N (f73c 15) .n σ (joinK (some f73lE) K)) (joinK (some f73lE) K)) ..) (fx5 fun c a b d e => f73t31 N c a b d e K) (by kernel_rfl)
def f73p2 : Plan := .mk (some f73l2) none .n f73p4
theorem f73t2 N c d e f a b (K : KT ρ) : f73i N (f73c 3) f73p2 (f73s1 c d e f a b) (joinK (some f73lE) K) =
  spec_l1Mutate.Z2 N c d e f a b (fun g a b => K .ret (f73s9 g a b)) :=
 viaSeqS (fun k => spec_l1Mutate.Z3 N c d e f a b k) (by kernel_rfl) (f73t3 N (K := seqK (fun σ => f73i N (f73c 7) f73p4 σ (joinK (some f73lE) K)) (joinK (some f73lE) K)) ..) (fx9 fun h c d e f a b i j => f73t4 N h c d e f a b i j K) (by kernel_rfl)
def f73p0 : Plan := .mk (some f73l1) none .n f73p2
theorem f73t0 N b a (K : KT ρ) : f73i N (f73c 1) f73p0 (f73s0 b a) (joinK (some f73lE) K) =
  spec_l1Mutate.Z0 N b a (fun e c d => K .ret (f73s9 e c d)) :=
 viaSeqS (fun k => spec_l1Mutate.Z1 N b a k) (by kernel_rfl) (f73t1 N (K := seqK (fun σ => f73i N (f73c 3) f73p2 σ (joinK (some f73lE) K)) (joinK (some f73lE) K)) ..) (fx6 fun a f g h c d => f73t2 N a f g h c d K) (by kernel_rfl)
theorem f73m (N : Nat) (a : MT) (b : Int) : f73i N (f73c 1) f73p0 (f73s0 a b) (joinK (some f73lE) (finK tab f73sig Try.f73.results.toList)) = spec_l1Mutate.Z0 N a b (fun c d e => some ((), ((d, (e, c)), ()))) :=
 (f73t0 N a b (finK tab f73sig Try.f73.results.toList)).trans (by kernel_rfl)
theorem f73ok (h : spec_l1Mutate.Spec) : EntryOk Try.prog 73 e73 :=
 entry_of_code (sig := f73sig) (c := (f73c 1)) (pl := f73p0) (je := (some f73lE)) (B := f73B) Try.func73 (by kernel_rfl) (by kernel_rfl) (by kernel_rfl) tabOk f73GOk (by kernel_rfl) (by kernel_rfl) (by kernel_rfl) (by kernel_rfl) fun X hb hp => by
  obtain ⟨a, b, _⟩ := X
  obtain ⟨N, h⟩ := h a b hb.1 hp
  exact ⟨N, (f73m N a b).trans (h N (Nat.le_refl N))⟩
theorem e73ok : EntryOk Try.prog 73 e73 := f73ok spec_l1Mutate.ok
end Go.Fw
namespace Go.Fw
variable {ρ : Type}
open Go.Proofs
def f28sig : Sig := ⟨[⟨.pair (.int .i64) (.pair (.int .i64) (.sl 3 (.int .i64))), true, false⟩, ⟨.int .i64, false, false⟩], [⟨.pair (.int .i64) (.pair (.int .i64) (.sl 3 (.int .i64))), true, false⟩, ⟨.bool, false, false⟩]⟩
def e28 : Entry := ⟨f28sig, none, fun X => ((), ((spec_MutateMatrix.g X.1 X.2.1).1, ((spec_MutateMatrix.g X.1 X.2.1).2, ())))⟩
def f28G : Gm := addG (addG (addG (addG emptyG 51 e51) 72 e72) 73 e73) 74 e74
theorem f28GOk : GOk Try.prog f28G := ((((GOk.nil).add e51ok (by kernel_rfl)).add e72ok (by kernel_rfl)).add e73ok (by kernel_rfl)).add e74ok (by kernel_rfl)
def f28lE : Clean := ⟨[], [], [], [], []⟩
def f28s0 (a : MT) (b : Int) : St := initSt f28sig.ps (a, (b, ()))
def f28s1 (a : LI) (b : Bool) (c d : Int) : St := stOf [(4, xb 4), (5, xB b)] [(4, (30, [yi c, yi d, .own 20000258]))] [(20000258, (⟨3, .int .i64, a, true, false⟩ : Row))]
def f28l1 : Clean := ⟨[4, 5], [4], [⟨⟨true, 4, 2⟩, 30000000, 3, .int .i64, true⟩], [], [(⟨true, 4, 2⟩, 20000258)]⟩
def f28B : Nat → Option Clean := lookL [(1000000, f28l1)]
abbrev f28i {ρ : Type} (N : Nat) (c : Code) (p : Plan) (σ : St) (K : KT ρ) : Option ρ := iCode f28G tab f28B N c p σ K
def f28c (n : Nat) : Code := codeN 99 (bodyOf Try.f28) n
theorem f28t0 N a b (K : KT ρ) : f28i N (f28c 1) .n (f28s0 a b) (joinK (some f28lE) K) =
 spec_MutateMatrix.Z0 N a b (fun c d e f => K .ret (f28s1 c d e f)) := by kernel_rfl
theorem f28m (N : Nat) (a : MT) (b : Int) : f28i N (f28c 1) .n (f28s0 a b) (joinK (some f28lE) (finK tab f28sig Try.f28.results.toList)) = spec_MutateMatrix.Z0 N a b (fun c d e f => some ((), ((e, (f, c)), (d, ())))) :=
 (f28t0 N a b (finK tab f28sig Try.f28.results.toList)).trans (by kernel_rfl)
theorem f28ok (h : spec_MutateMatrix.Spec) : EntryOk Try.prog 28 e28 :=
 entry_of_code (sig := f28sig) (c := (f28c 1)) (pl := .n) (je := (some f28lE)) (B := f28B) Try.func28 (by kernel_rfl) (by kernel_rfl) (by kernel_rfl) tabOk f28GOk (by kernel_rfl) (by kernel_rfl) (by kernel_rfl) (by kernel_rfl) fun X hb hp => by
  obtain ⟨a, b, _⟩ := X
  obtain ⟨N, h⟩ := h a b hb.1
  exact ⟨N, (f28m N a b).trans (h N (Nat.le_refl N))⟩
theorem e28ok : EntryOk Try.prog 28 e28 := f28ok spec_MutateMatrix.ok
end Go.Fw
namespace Go.Fw
variable {ρ : Type}
open Go.Proofs
def f68k : VarK := ⟨113, [(5, .int .u8)], .pair (.int .i64) (.int .i64)⟩
def f68ps : List PT := [⟨.int .i64, false, false⟩]
def f68rs : List PT := [⟨.sl 3 (.int .i64), false, false⟩]
def e68 : EntryV := ⟨f68k, f68ps, true, f68rs, (some fun X => spec_dNames.P X.1.1.1 X.1.2 X.2.1), fun X => ((spec_dNames.g X.1.1.1 X.1.2 X.2.1).1, ((), ((spec_dNames.g X.1.1.1 X.1.2 X.2.1).2, ())))⟩
def f68G : Gm := addV emptyG 69 e69
theorem f68GOk : GOk Try.prog f68G := (GOk.nil).addV e69ok (by kernel_rfl)
def f68lE : Clean := ⟨[], [], [], [], []⟩
def f68s0 (u0 : Value) (b0 : List Int) (r0 : Int × Int) (a : Int) : St := initStV f68k f68ps [u0] (((b0, ()), r0), (a, ()))
def f68s1 (u0 : Value) (a : Int) (b : List Int) (c d : Int) : St := stOf [(0, xb 100000), (1, xi a), (100000, xb 100000)] [(100000, (113, [.bor u0 5 (.int .u8) b, yi c, yi d]))] []
def f68l1 : Clean := ⟨[0, 1, 100000], [100000], [], [], []⟩
def f68s2 (u0 : Value) (a : LI) (b : Int) (c : List Int) (d e : Int) : St := stOf [(0, xb 100000), (1, xi b), (5, xo 1000320), (100000, xb 100000)] [(100000, (113, [.bor u0 5 (.int .u8) c, yi d, yi e]))] [(1000320, (⟨3, .int .i64, a, true, false⟩ : Row))]
def f68l2 : Clean := ⟨[0, 1, 5, 100000], [100000], [], [], [(⟨false, 5, 0⟩, 1000320)]⟩
def f68s3 (u0 : Value) (a : LI) (b c : Int) (d : List Int) (e f : Int) : St := stOf [(0, xb 100000), (1, xi b), (5, xo 1000320), (6, xi c), (100000, xb 100000)] [(100000, (113, [.bor u0 5 (.int .u8) d, yi e, yi f]))] [(1000320, (⟨3, .int .i64, a, true, false⟩ : Row))]
def f68l3 : Clean := ⟨[0, 1, 5, 6, 100000], [100000], [], [], [(⟨false, 5, 0⟩, 1000320)]⟩
def f68s4 (u0 : Value) (a : LI) (b : List Int) (c d : Int) : St := stOf [(5, xo 1000320), (100000, xb 100000)] [(100000, (113, [.bor u0 5 (.int .u8) b, yi c, yi d]))] [(1000320, (⟨3, .int .i64, a, true, false⟩ : Row))]
def f68l4 : Clean := ⟨[5, 100000], [100000], [], [], [(⟨false, 5, 0⟩, 1000320)]⟩
def f68s5 (u0 : Value) (a : LI) (b : List Int) (c d : Int) : St := stOf [(4, xo 1000256), (100000, xb 100000)] [(100000, (113, [.bor u0 5 (.int .u8) b, yi c, yi d]))] [(1000256, (⟨3, .int .i64, a, true, false⟩ : Row))]
def f68l5 : Clean := ⟨[4, 100000], [100000], [], [], [(⟨false, 4, 0⟩, 1000256)]⟩
def f68B : Nat → Option Clean := lookL [(0, f68l4), (1000000, f68l5)]
abbrev f68i {ρ : Type} (N : Nat) (c : Code) (p : Plan) (σ : St) (K : KT ρ) : Option ρ := iCode f68G tab f68B N c p σ K
def f68c (n : Nat) : Code := codeN 99 (bodyOf Try.f68) n
theorem f68t1 N u0 b0 r0 a (K : KT ρ) : f68i N (f68c 2) .n (f68s0 u0 b0 r0 a) (joinK (some f68l1) K) =
 spec_dNames.Z1 N b0 r0 a (fun a b c d => K .nrm (f68s1 u0 a b c d)) := by kernel_rfl
theorem f68t3 N u0 a b c d (K : KT ρ) : f68i N (f68c 5) .n (f68s1 u0 a b c d) (joinK (some f68l2) K) =
 spec_dNames.Z3 N a b c d (fun e a b c d => K .nrm (f68s2 u0 e a b c d)) := by kernel_rfl
theorem f68t6 N u0 a b c d e (K : KT ρ) : f68i N (f68c 19) .n (f68s2 u0 a b c d e) (joinK (some f68l3) K) =
 spec_dNames.Z6 N a b c d e (fun a b f c d e => K .nrm (f68s3 u0 a b f c d e)) := by kernel_rfl
theorem f68t9 N u0 a e f b c d (K : KT ρ) : f68i N (f68c 75) .n (f68s3 u0 a e f b c d) (joinK (some f68l3) K) =
 spec_dNames.Z9 N a e f b c d (fun a e f b c d => K .nrm (f68s3 u0 a e f b c d)) (fun a b c d => K (.exit 0) (f68s4 u0 a b c d)) := by kernel_rfl
def f68p8 : Plan := .mk none (some f68l3) .n .n
abbrev f68w8 {ρ : Type} (N M : Nat) (σ : St) (K : KT ρ) : Option ρ := loopC (fun σ K => f68i N (f68c 75) .n σ K) f68l3 M σ K
theorem f68t8L {ρ : Type} (N : Nat) (u0 : Value) (K : KT ρ) : ∀ (M : Nat) (a : LI) (e f : Int) (b : List Int) (c d : Int), f68w8 N M (f68s3 u0 a e f b c d) K =
 spec_dNames.Z8L N (fun a b c d => K (.exit 0) (f68s4 u0 a b c d)) M a e f b c d
 | 0, _, _, _, _, _, _ => rfl
 | M + 1, a, e, f, b, c, d => viaRoundS (fun k => spec_dNames.Z9 N a e f b c d k (fun a b c d => K (.exit 0) (f68s4 u0 a b c d))) (f68t9 N u0 (K := seqK (fun σ => f68w8 N M σ K) K) ..) (fx6 fun a e f b c d => f68t8L N u0 K M a e f b c d) (by kernel_rfl)
theorem f68t8 N u0 a e f b c d (K : KT ρ) : f68i N (f68c 43) f68p8 (f68s3 u0 a e f b c d) (joinK (some f68l4) K) =
  spec_dNames.Z8 N a e f b c d (fun a b c d => K (.exit 0) (f68s4 u0 a b c d)) :=
 viaLoopS (by kernel_rfl) (f68t8L N u0 (joinK (some f68l4) K) N a e f b c d) (by kernel_rfl)
def f68p7 : Plan := .mk (some f68l4) none f68p8 .n
theorem f68t7 N u0 a e f b c d (K : KT ρ) : f68i N (f68c 27) f68p7 (f68s3 u0 a e f b c d) (joinK (some f68l4) K) =
  spec_dNames.Z7 N a e f b c d (fun a b c d => K .nrm (f68s4 u0 a b c d)) :=
 viaBlockS (by kernel_rfl) (f68t8 N u0 (K := blockK 0 (joinK (some f68l4) K)) ..) (by kernel_rfl)
def f68p5 : Plan := .mk (some f68l3) none .n f68p7
theorem f68t5 N u0 a e b c d (K : KT ρ) : f68i N (f68c 11) f68p5 (f68s2 u0 a e b c d) (joinK (some f68l4) K) =
  spec_dNames.Z5 N a e b c d (fun a b c d => K .nrm (f68s4 u0 a b c d)) :=
 viaSeqS (fun k => spec_dNames.Z6 N a e b c d k) (by kernel_rfl) (f68t6 N u0 (K := seqK (fun σ => f68i N (f68c 27) f68p7 σ (joinK (some f68l4) K)) (joinK (some f68l4) K)) ..) (fx6 fun a e f b c d => f68t7 N u0 a e f b c d K) (by kernel_rfl)
theorem f68t10 N u0 d a b c (K : KT ρ) : f68i N (f68c 15) .n (f68s4 u0 d a b c) (joinK (some f68lE) K) =
 spec_dNames.Z10 N d a b c (fun e a b c => K .ret (f68s5 u0 e a b c)) := by kernel_rfl
def f68p4 : Plan := .mk (some f68l4) none f68p5 .n
theorem f68t4 N u0 d e a b c (K : KT ρ) : f68i N (f68c 7) f68p4 (f68s2 u0 d e a b c) (joinK (some f68lE) K) =
  spec_dNames.Z4 N d e a b c (fun f a b c => K .ret (f68s5 u0 f a b c)) :=
 viaSeqS (fun k => spec_dNames.Z5 N d e a b c k) (by kernel_rfl) (f68t5 N u0 (K := seqK (fun σ => f68i N (f68c 15) .n σ (joinK (some f68lE) K)) (joinK (some f68lE) K)) ..) (fx4 fun d a b c => f68t10 N u0 d a b c K) (by kernel_rfl)
def f68p2 : Plan := .mk (some f68l2) none .n f68p4
theorem f68t2 N u0 d a b c (K : KT ρ) : f68i N (f68c 3) f68p2 (f68s1 u0 d a b c) (joinK (some f68lE) K) =
  spec_dNames.Z2 N d a b c (fun e a b c => K .ret (f68s5 u0 e a b c)) :=
 viaSeqS (fun k => spec_dNames.Z3 N d a b c k) (by kernel_rfl) (f68t3 N u0 (K := seqK (fun σ => f68i N (f68c 7) f68p4 σ (joinK (some f68lE) K)) (joinK (some f68lE) K)) ..) (fx5 fun f d a b c => f68t4 N u0 f d a b c K) (by kernel_rfl)
def f68p0 : Plan := .mk (some f68l1) none .n f68p2
theorem f68t0 N u0 b0 r0 a (K : KT ρ) : f68i N (f68c 1) f68p0 (f68s0 u0 b0 r0 a) (joinK (some f68lE) K) =
  spec_dNames.Z0 N b0 r0 a (fun e b c d => K .ret (f68s5 u0 e b c d)) :=
 viaSeqS (fun k => spec_dNames.Z1 N b0 r0 a k) (by kernel_rfl) (f68t1 N u0 (K := seqK (fun σ => f68i N (f68c 3) f68p2 σ (joinK (some f68lE) K)) (joinK (some f68lE) K)) ..) (fx4 fun a b c d => f68t2 N u0 a b c d K) (by kernel_rfl)
theorem f68m (N : Nat) (u0 : Value) (b0 : List Int) (r0 : Int × Int) (a : Int) : f68i N (f68c 1) f68p0 (f68s0 u0 b0 r0 a) (joinK (some f68lE) (finKV tab f68k f68ps true f68rs Try.f68.results.toList)) = spec_dNames.Z0 N b0 r0 a (fun b e c d => some ([u0], ((c, d), ((), (b, ()))))) :=
 (f68t0 N u0 b0 r0 a (finKV tab f68k f68ps true f68rs Try.f68.results.toList)).trans (by kernel_rfl)
theorem f68ok (h : spec_dNames.Spec) : EntryVOk Try.prog 68 e68 :=
 entryV_of_code (k := f68k) (ps := f68ps) (rs := f68rs) (back := true) (c := (f68c 1)) (pl := f68p0) (je := (some f68lE)) (B := f68B) Try.func68 (by kernel_rfl) (by kernel_rfl) (by kernel_rfl) tabOk f68GOk (by kernel_rfl) (by kernel_rfl) (by kernel_rfl) fun lit X hl hb1 hb2 hp => by
  obtain ⟨⟨⟨b0, _⟩, r0⟩, a, _⟩ := X
  match lit, hl with
  | [u0], _ =>
   obtain ⟨N, h⟩ := h [u0] b0 r0 a hb1.1 hp
   exact ⟨N, (f68m N u0 b0 r0 a).trans (h N (Nat.le_refl N))⟩
theorem e68ok : EntryVOk Try.prog 68 e68 := f68ok spec_dNames.ok
end Go.Fw
namespace Go.Fw
variable {ρ : Type}
open Go.Proofs
def f112sig : Sig := ⟨[⟨.pair (.int .i64) (.pair (.int .i64) (.sl 3 (.int .i64))), true, false⟩, ⟨.sl 3 (.int .i64), false, false⟩], [⟨.pair (.int .i64) (.pair (.int .i64) (.sl 3 (.int .i64))), true, false⟩]⟩
def e112 : Entry := ⟨f112sig, (some fun X => spec_l1Rename.P X.1 X.2.1), fun X => ((), ((spec_l1Rename.g X.1 X.2.1), ()))⟩
def f112G : Gm := addG (addG emptyG 80 e80) 102 e102
theorem f112GOk : GOk Try.prog f112G := ((GOk.nil).add e80ok (by kernel_rfl)).add e102ok (by kernel_rfl)
def f112lE : Clean := ⟨[], [], [], [], []⟩
def f112s0 (a : MT) (b : LI) : St := initSt f112sig.ps (a, (b, ()))
def f112s1 (a : LI) (b d : Int) (e : LI) (f g : Int) : St := stOf [(1, .c (.sn 3 tI a none)), (2, xb 2), (4, xb 4)] [(2, (30, [yi b, yi d, .sn 3 tI e none])), (4, (30, [yi f, yi g, .nil]))] []
def f112l1 : Clean := ⟨[1, 2, 4], [2, 4], [], [], []⟩
def f112s2 (a b : LI) (d e : Int) (f : LI) (g h i j : Int) : St := stOf [(1, .c (.sn 3 tI b none)), (2, xb 2), (4, xb 4), (5, xb 5)] [(2, (30, [yi d, yi e, .sn 3 tI f none])), (4, (30, [yi g, yi h, .nil])), (5, (30, [yi i, yi j, .own 20000322]))] [(20000322, (⟨3, .int .i64, a, true, false⟩ : Row))]
def f112l2 : Clean := ⟨[1, 2, 4, 5], [2, 4, 5], [], [], [(⟨true, 5, 2⟩, 20000322)]⟩
def f112s3 (a b : LI) (d e f : Int) (g : LI) (h i j l : Int) : St := stOf [(1, .c (.sn 3 tI b none)), (2, xb 2), (4, xb 4), (5, xb 5), (6, xi d)] [(2, (30, [yi e, yi f, .sn 3 tI g none])), (4, (30, [yi h, yi i, .nil])), (5, (30, [yi j, yi l, .own 20000322]))] [(20000322, (⟨3, .int .i64, a, true, false⟩ : Row))]
def f112l3 : Clean := ⟨[1, 2, 4, 5, 6], [2, 4, 5], [], [], [(⟨true, 5, 2⟩, 20000322)]⟩
def f112s4 (a b : LI) (d e f g : Int) (h : LI) (i j l m : Int) : St := stOf [(1, .c (.sn 3 tI b none)), (2, xb 2), (4, xb 4), (5, xb 5), (6, xi d), (7, xi e)] [(2, (30, [yi f, yi g, .sn 3 tI h none])), (4, (30, [yi i, yi j, .nil])), (5, (30, [yi l, yi m, .own 20000322]))] [(20000322, (⟨3, .int .i64, a, true, false⟩ : Row))]
def f112l4 : Clean := ⟨[1, 2, 4, 5, 6, 7], [2, 4, 5], [], [], [(⟨true, 5, 2⟩, 20000322)]⟩
def f112s5 (a b : LI) (d e f g h : Int) (i : LI) (j l m o : Int) : St := stOf [(1, .c (.sn 3 tI b none)), (2, xb 2), (4, xb 4), (5, xb 5), (6, xi d), (7, xi e), (8, xi f)] [(2, (30, [yi g, yi h, .sn 3 tI i none])), (4, (30, [yi j, yi l, .nil])), (5, (30, [yi m, yi o, .own 20000322]))] [(20000322, (⟨3, .int .i64, a, true, false⟩ : Row))]
def f112l5 : Clean := ⟨[1, 2, 4, 5, 6, 7, 8], [2, 4, 5], [], [], [(⟨true, 5, 2⟩, 20000322)]⟩
def f112s6 (a : LI) (b c d e : Int) : St := stOf [(4, xb 4), (5, xb 5)] [(4, (30, [yi b, yi c, .nil])), (5, (30, [yi d, yi e, .own 20000322]))] [(20000322, (⟨3, .int .i64, a, true, false⟩ : Row))]
def f112l6 : Clean := ⟨[4, 5], [4, 5], [], [], [(⟨true, 5, 2⟩, 20000322)]⟩
def f112s7 (a : LI) (b c : Int) : St := stOf [(4, xb 4)] [(4, (30, [yi b, yi c, .own 20000258]))] [(20000258, (⟨3, .int .i64, a, true, false⟩ : Row))]
def f112l7 : Clean := ⟨[4], [4], [], [], [(⟨true, 4, 2⟩, 20000258)]⟩
def f112B : Nat → Option Clean := lookL [(2, f112l3), (1, f112l3), (0, f112l6), (1000000, f112l7)]
abbrev f112i {ρ : Type} (N : Nat) (c : Code) (p : Plan) (σ : St) (K : KT ρ) : Option ρ := iCode f112G tab f112B N c p σ K
def f112c (n : Nat) : Code := codeN 99 (bodyOf Try.f112) n
theorem f112t1 N b a (K : KT ρ) : f112i N (f112c 2) .n (f112s0 b a) (joinK (some f112l1) K) =
 spec_l1Rename.Z1 N b a (fun a c d e f g => K .nrm (f112s1 a c d e f g)) := by kernel_rfl
theorem f112t3 N a b c d e f (K : KT ρ) : f112i N (f112c 5) .n (f112s1 a b c d e f) (joinK (some f112l2) K) =
 spec_l1Rename.Z3 N a b c d e f (fun g a b c d e f h i => K .nrm (f112s2 g a b c d e f h i)) := by kernel_rfl
theorem f112t6 N a b c d e f g h i (K : KT ρ) : f112i N (f112c 19) .n (f112s2 a b c d e f g h i) (joinK (some f112l3) K) =
 spec_l1Rename.Z6 N a b c d e f g h i (fun a b j c d e f g h i => K .nrm (f112s3 a b j c d e f g h i)) := by kernel_rfl
theorem f112t10 N a f g h i j b c d e (K : KT ρ) : f112i N (f112c 139) .n (f112s3 a f g h i j b c d e) (joinK (some f112l3) K) =
 spec_l1Rename.Z10 N a f g h i j b c d e (fun a f g h i j b c d e => K .nrm (f112s3 a f g h i j b c d e)) (fun a b c d e => K (.exit 0) (f112s6 a b c d e)) := by kernel_rfl
theorem f112t14 N a b c d e f g h i j (K : KT ρ) : f112i N (f112c 1099) .n (f112s3 a b c d e f g h i j) (joinK (some f112l4) K) =
 spec_l1Rename.Z14 N a b c d e f g h i j (fun a b c l d e f g h i j => K .nrm (f112s4 a b c l d e f g h i j)) := by kernel_rfl
theorem f112t16 N a b c d e f g h i j l (K : KT ρ) : f112i N (f112c 2635) .n (f112s4 a b c d e f g h i j l) (joinK (some f112l4) K) =
 spec_l1Rename.Z16 N a b c d e f g h i j l (fun a b c d e f g h i j l => K .nrm (f112s4 a b c d e f g h i j l)) := by kernel_rfl
theorem f112t18 N a b c d e f g h i j l (K : KT ρ) : f112i N (f112c 5707) .n (f112s4 a b c d e f g h i j l) (joinK (some f112l5) K) =
 spec_l1Rename.Z18 N a b c d e f g h i j l (fun a b c d m e f g h i j l => K .nrm (f112s5 a b c d m e f g h i j l)) := by kernel_rfl
theorem f112t21 N a b c l m d e f g h i j (K : KT ρ) : f112i N (f112c 20043) .n (f112s5 a b c l m d e f g h i j) (joinK (some f112l5) K) =
 spec_l1Rename.Z21 N a b c l m d e f g h i j (fun a b c l m d e f g h i j => K .nrm (f112s5 a b c l m d e f g h i j)) (fun a b c d e f g h i j => K (.exit 2) (f112s3 a b c d e f g h i j)) := by kernel_rfl
def f112p20 : Plan := .mk none (some f112l5) .n .n
abbrev f112w20 {ρ : Type} (N M : Nat) (σ : St) (K : KT ρ) : Option ρ := loopC (fun σ K => f112i N (f112c 20043) .n σ K) f112l5 M σ K
theorem f112t20L {ρ : Type} (N : Nat) (K : KT ρ) : ∀ (M : Nat) (a b : LI) (c l m d e : Int) (f : LI) (g h i j : Int), f112w20 N M (f112s5 a b c l m d e f g h i j) K =
 spec_l1Rename.Z20L N (fun a b c d e f g h i j => K (.exit 2) (f112s3 a b c d e f g h i j)) M a b c l m d e f g h i j
 | 0, _, _, _, _, _, _, _, _, _, _, _, _ => rfl
 | M + 1, a, b, c, l, m, d, e, f, g, h, i, j => viaRoundS (fun k => spec_l1Rename.Z21 N a b c l m d e f g h i j k (fun a b c d e f g h i j => K (.exit 2) (f112s3 a b c d e f g h i j))) (f112t21 N (K := seqK (fun σ => f112w20 N M σ K) K) ..) (fx12 fun a b c l m d e f g h i j => f112t20L N K M a b c l m d e f g h i j) (by kernel_rfl)
theorem f112t20 N a b c l m d e f g h i j (K : KT ρ) : f112i N (f112c 11851) f112p20 (f112s5 a b c l m d e f g h i j) (joinK (some f112l3) K) =
  spec_l1Rename.Z20 N a b c l m d e f g h i j (fun a b c d e f g h i j => K (.exit 2) (f112s3 a b c d e f g h i j)) :=
 viaLoopS (by kernel_rfl) (f112t20L N (joinK (some f112l3) K) N a b c l m d e f g h i j) (by kernel_rfl)
def f112p19 : Plan := .mk (some f112l3) none f112p20 .n
theorem f112t19 N a b c l m d e f g h i j (K : KT ρ) : f112i N (f112c 7755) f112p19 (f112s5 a b c l m d e f g h i j) (joinK (some f112l3) K) =
  spec_l1Rename.Z19 N a b c l m d e f g h i j (fun a b c d e f g h i j => K .nrm (f112s3 a b c d e f g h i j)) :=
 viaBlockS (by kernel_rfl) (f112t20 N (K := blockK 2 (joinK (some f112l3) K)) ..) (by kernel_rfl)
def f112p17 : Plan := .mk (some f112l5) none .n f112p19
theorem f112t17 N a b c l d e f g h i j (K : KT ρ) : f112i N (f112c 3659) f112p17 (f112s4 a b c l d e f g h i j) (joinK (some f112l3) K) =
  spec_l1Rename.Z17 N a b c l d e f g h i j (fun a b c d e f g h i j => K .nrm (f112s3 a b c d e f g h i j)) :=
 viaSeqS (fun k => spec_l1Rename.Z18 N a b c l d e f g h i j k) (by kernel_rfl) (f112t18 N (K := seqK (fun σ => f112i N (f112c 7755) f112p19 σ (joinK (some f112l3) K)) (joinK (some f112l3) K)) ..) (fx12 fun a b c l m d e f g h i j => f112t19 N a b c l m d e f g h i j K) (by kernel_rfl)
def f112p15 : Plan := .mk (some f112l4) none .n f112p17
theorem f112t15 N a b c l d e f g h i j (K : KT ρ) : f112i N (f112c 1611) f112p15 (f112s4 a b c l d e f g h i j) (joinK (some f112l3) K) =
  spec_l1Rename.Z15 N a b c l d e f g h i j (fun a b c d e f g h i j => K .nrm (f112s3 a b c d e f g h i j)) :=
 viaSeqS (fun k => spec_l1Rename.Z16 N a b c l d e f g h i j k) (by kernel_rfl) (f112t16 N (K := seqK (fun σ => f112i N (f112c 3659) f112p17 σ (joinK (some f112l3) K)) (joinK (some f112l3) K)) ..) (fx11 fun a b c l d e f g h i j => f112t17 N a b c l d e f g h i j K) (by kernel_rfl)
def f112p13 : Plan := .mk (some f112l4) none .n f112p15
theorem f112t13 N a b c d e f g h i j (K : KT ρ) : f112i N (f112c 587) f112p13 (f112s3 a b c d e f g h i j) (joinK (some f112l3) K) =
  spec_l1Rename.Z13 N a b c d e f g h i j (fun a b c d e f g h i j => K .nrm (f112s3 a b c d e f g h i j)) :=
 viaSeqS (fun k => spec_l1Rename.Z14 N a b c d e f g h i j k) (by kernel_rfl) (f112t14 N (K := seqK (fun σ => f112i N (f112c 1611) f112p15 σ (joinK (some f112l3) K)) (joinK (some f112l3) K)) ..) (fx11 fun a b c l d e f g h i j => f112t15 N a b c l d e f g h i j K) (by kernel_rfl)
def f112p12 : Plan := .mk (some f112l3) none f112p13 .n
theorem f112t12 N a b c d e f g h i j (K : KT ρ) : f112i N (f112c 331) f112p12 (f112s3 a b c d e f g h i j) (joinK (some f112l3) K) =
  spec_l1Rename.Z12 N a b c d e f g h i j (fun a b c d e f g h i j => K .nrm (f112s3 a b c d e f g h i j)) :=
 viaBlockS (by kernel_rfl) (f112t13 N (K := blockK 1 (joinK (some f112l3) K)) ..) (by kernel_rfl)
theorem f112t22 N a b c d e f g h i j (K : KT ρ) : f112i N (f112c 459) .n (f112s3 a b c d e f g h i j) (joinK (some f112l3) K) =
 spec_l1Rename.Z22 N a b c d e f g h i j (fun a b c d e f g h i j => K .nrm (f112s3 a b c d e f g h i j)) := by kernel_rfl
def f112p11 : Plan := .mk (some f112l3) none f112p12 .n
theorem f112t11 N a b c d e f g h i j (K : KT ρ) : f112i N (f112c 203) f112p11 (f112s3 a b c d e f g h i j) (joinK (some f112l3) K) =
  spec_l1Rename.Z11 N a b c d e f g h i j (fun a b c d e f g h i j => K .nrm (f112s3 a b c d e f g h i j)) :=
 viaSeqS (fun k => spec_l1Rename.Z12 N a b c d e f g h i j k) (by kernel_rfl) (f112t12 N (K := seqK (fun σ => f112i N (f112c 459) .n σ (joinK (some f112l3) K)) (joinK (some f112l3) K)) ..) (fx10 fun a b c d e f g h i j => f112t22 N a b c d e f g h i j K) (by kernel_rfl)
def f112p9 : Plan := .mk (some f112l3) none .n f112p11
theorem f112t9 N a f g h i j b c d e (K : KT ρ) : f112i N (f112c 75) f112p9 (f112s3 a f g h i j b c d e) (joinK (some f112l3) K) =
  spec_l1Rename.Z9 N a f g h i j b c d e (fun a f g h i j b c d e => K .nrm (f112s3 a f g h i j b c d e)) (fun a b c d e => K (.exit 0) (f112s6 a b c d e)) :=
 viaSeqS (fun k => spec_l1Rename.Z10 N a f g h i j b c d e k (fun a b c d e => K (.exit 0) (f112s6 a b c d e))) (by kernel_rfl) (f112t10 N (K := seqK (fun σ => f112i N (f112c 203) f112p11 σ (joinK (some f112l3) K)) (joinK (some f112l3) K)) ..) (fx10 fun a f g h i j b c d e => f112t11 N a f g h i j b c d e K) (by kernel_rfl)
def f112p8 : Plan := .mk none (some f112l3) f112p9 .n
abbrev f112w8 {ρ : Type} (N M : Nat) (σ : St) (K : KT ρ) : Option ρ := loopC (fun σ K => f112i N (f112c 75) f112p9 σ K) f112l3 M σ K
theorem f112t8L {ρ : Type} (N : Nat) (K : KT ρ) : ∀ (M : Nat) (a f : LI) (g h i : Int) (j : LI) (b c d e : Int), f112w8 N M (f112s3 a f g h i j b c d e) K =
 spec_l1Rename.Z8L N (fun a b c d e => K (.exit 0) (f112s6 a b c d e)) M a f g h i j b c d e
 | 0, _, _, _, _, _, _, _, _, _, _ => rfl
 | M + 1, a, f, g, h, i, j, b, c, d, e => viaRoundS (fun k => spec_l1Rename.Z9 N a f g h i j b c d e k (fun a b c d e => K (.exit 0) (f112s6 a b c d e))) (f112t9 N (K := seqK (fun σ => f112w8 N M σ K) K) ..) (fx10 fun a f g h i j b c d e => f112t8L N K M a f g h i j b c d e) (by kernel_rfl)
theorem f112t8 N a f g h i j b c d e (K : KT ρ) : f112i N (f112c 43) f112p8 (f112s3 a f g h i j b c d e) (joinK (some f112l6) K) =
  spec_l1Rename.Z8 N a f g h i j b c d e (fun a b c d e => K (.exit 0) (f112s6 a b c d e)) :=
 viaLoopS (by kernel_rfl) (f112t8L N (joinK (some f112l6) K) N a f g h i j b c d e) (by kernel_rfl)
def f112p7 : Plan := .mk (some f112l6) none f112p8 .n
theorem f112t7 N a f g h i j b c d e (K : KT ρ) : f112i N (f112c 27) f112p7 (f112s3 a f g h i j b c d e) (joinK (some f112l6) K) =
  spec_l1Rename.Z7 N a f g h i j b c d e (fun a b c d e => K .nrm (f112s6 a b c d e)) :=
 viaBlockS (by kernel_rfl) (f112t8 N (K := blockK 0 (joinK (some f112l6) K)) ..) (by kernel_rfl)
def f112p5 : Plan := .mk (some f112l3) none .n f112p7
theorem f112t5 N a f g h i b c d e (K : KT ρ) : f112i N (f112c 11) f112p5 (f112s2 a f g h i b c d e) (joinK (some f112l6) K) =
  spec_l1Rename.Z5 N a f g h i b c d e (fun a b c d e => K .nrm (f112s6 a b c d e)) :=
 viaSeqS (fun k => spec_l1Rename.Z6 N a f g h i b c d e k) (by kernel_rfl) (f112t6 N (K := seqK (fun σ => f112i N (f112c 27) f112p7 σ (joinK (some f112l6) K)) (joinK (some f112l6) K)) ..) (fx10 fun a f j g h i b c d e => f112t7 N a f j g h i b c d e K) (by kernel_rfl)
theorem f112t23 N c a b d e (K : KT ρ) : f112i N (f112c 15) .n (f112s6 c a b d e) (joinK (some f112lE) K) =
 spec_l1Rename.Z23 N c a b d e (fun f a b => K .ret (f112s7 f a b)) := by kernel_rfl
def f112p4 : Plan := .mk (some f112l6) none f112p5 .n
theorem f112t4 N c f g h i a b d e (K : KT ρ) : f112i N (f112c 7) f112p4 (f112s2 c f g h i a b d e) (joinK (some f112lE) K) =
  spec_l1Rename.Z4 N c f g h i a b d e (fun j a b => K .ret (f112s7 j a b)) :=
 viaSeqS (fun k => spec_l1Rename.Z5 N c f g h i a b d e k) (by kernel_rfl) (f112t5 N (K := seqK (fun σ => f112i N (f112c 15) .n σ (joinK (some f112lE) K)) (joinK (some f112lE) K)) ..) (fx5 fun c a b d e => f112t23 N c a b d e K) (by kernel_rfl)
def f112p2 : Plan := .mk (some f112l2) none .n f112p4
theorem f112t2 N c d e f a b (K : KT ρ) : f112i N (f112c 3) f112p2 (f112s1 c d e f a b) (joinK (some f112lE) K) =
  spec_l1Rename.Z2 N c d e f a b (fun g a b => K .ret (f112s7 g a b)) :=
 viaSeqS (fun k => spec_l1Rename.Z3 N c d e f a b k) (by kernel_rfl) (f112t3 N (K := seqK (fun σ => f112i N (f112c 7) f112p4 σ (joinK (some f112lE) K)) (joinK (some f112lE) K)) ..) (fx9 fun h c d e f a b i j => f112t4 N h c d e f a b i j K) (by kernel_rfl)
def f112p0 : Plan := .mk (some f112l1) none .n f112p2
theorem f112t0 N b a (K : KT ρ) : f112i N (f112c 1) f112p0 (f112s0 b a) (joinK (some f112lE) K) =
  spec_l1Rename.Z0 N b a (fun e c d => K .ret (f112s7 e c d)) :=
 viaSeqS (fun k => spec_l1Rename.Z1 N b a k) (by kernel_rfl) (f112t1 N (K := seqK (fun σ => f112i N (f112c 3) f112p2 σ (joinK (some f112lE) K)) (joinK (some f112lE) K)) ..) (fx6 fun a f g h c d => f112t2 N a f g h c d K) (by kernel_rfl)
theorem f112m (N : Nat) (a : MT) (b : LI) : f112i N (f112c 1) f112p0 (f112s0 a b) (joinK (some f112lE) (finK tab f112sig Try.f112.results.toList)) = spec_l1Rename.Z0 N a b (fun c d e => some ((), ((d, (e, c)), ()))) :=
 (f112t0 N a b (finK tab f112sig Try.f112.results.toList)).trans (by kernel_rfl)
theorem f112ok (h : spec_l1Rename.Spec) : EntryOk Try.prog 112 e112 :=
 entry_of_code (sig := f112sig) (c := (f112c 1)) (pl := f112p0) (je := (some f112lE)) (B := f112B) Try.func112 (by kernel_rfl) (by kernel_rfl) (by kernel_rfl) tabOk f112GOk (by kernel_rfl) (by kernel_rfl) (by kernel_rfl) (by kernel_rfl) fun X hb hp => by
  obtain ⟨a, b, _⟩ := X
  obtain ⟨N, h⟩ := h a b hb.1 hb.2.1 hp
  exact ⟨N, (f112m N a b).trans (h N (Nat.le_refl N))⟩
theorem e112ok : EntryOk Try.prog 112 e112 := f112ok spec_l1Rename.ok
end Go.Fw
namespace Go.Fw
variable {ρ : Type}
open Go.Proofs
def f127k : VarK := ⟨113, [(5, .int .u8)], .pair (.int .i64) (.int .i64)⟩
def f127ps : List PT := [⟨.pair (.int .i64) (.pair (.int .i64) (.sl 3 (.int .i64))), true, false⟩]
def f127rs : List PT := [⟨.pair (.int .i64) (.pair (.int .i64) (.sl 3 (.int .i64))), true, false⟩]
def e127 : EntryV := ⟨f127k, f127ps, true, f127rs, (some fun X => spec_dMoved.P X.1.1.1 X.1.2 X.2.1), fun X => ((spec_dMoved.g X.1.1.1 X.1.2 X.2.1).1, ((), ((spec_dMoved.g X.1.1.1 X.1.2 X.2.1).2, ())))⟩
def f127G : Gm := addG (addV (addV (addG emptyG 28 e28) 68 e68) 69 e69) 112 e112
theorem f127GOk : GOk Try.prog f127G := ((((GOk.nil).add e28ok (by kernel_rfl)).addV e68ok (by kernel_rfl)).addV e69ok (by kernel_rfl)).add e112ok (by kernel_rfl)
def f127lE : Clean := ⟨[], [], [], [], []⟩
def f127s0 (u0 : Value) (b0 : List Int) (r0 : Int × Int) (a : MT) : St := initStV f127k f127ps [u0] (((b0, ()), r0), (a, ()))
def f127s1 (u0 : Value) (a : List Int) (b c d e : Int) (f : LI) (g h : Int) : St := stOf [(0, xb 100000), (3, xb 3), (4, xb 4), (100000, xb 100000)] [(100000, (113, [.bor u0 5 (.int .u8) a, yi b, yi c])), (3, (30, [yi d, yi e, .sn 3 tI f none])), (4, (30, [yi g, yi h, .nil]))] []
def f127l1 : Clean := ⟨[0, 3, 4, 100000], [100000, 3, 4], [], [], []⟩
def f127s2 (u0 : Value) (a : Int) (b : List Int) (c d e f : Int) (g : LI) (h i : Int) : St := stOf [(0, xb 100000), (3, xb 3), (4, xb 4), (5, xi a), (100000, xb 100000)] [(100000, (113, [.bor u0 5 (.int .u8) b, yi c, yi d])), (3, (30, [yi e, yi f, .sn 3 tI g none])), (4, (30, [yi h, yi i, .nil]))] []
def f127l2 : Clean := ⟨[0, 3, 4, 5, 100000], [100000, 3, 4], [], [], []⟩
def f127s3 (u0 : Value) (a b : Int) (c : List Int) (d e f g : Int) (h : LI) (i j : Int) : St := stOf [(0, xb 100000), (3, xb 3), (4, xb 4), (5, xi a), (6, xi b), (100000, xb 100000)] [(100000, (113, [.bor u0 5 (.int .u8) c, yi d, yi e])), (3, (30, [yi f, yi g, .sn 3 tI h none])), (4, (30, [yi i, yi j, .nil]))] []
def f127l3 : Clean := ⟨[0, 3, 4, 5, 6, 100000], [100000, 3, 4], [], [], []⟩
def f127s4 (u0 : Value) (a b : Int) (c : List Int) (d e f g : Int) (h : LI) (i j : Int) : St := stOf [(0, xb 100000), (3, xb 3), (4, xb 4), (5, xi a), (6, xi b), (100000, xb 100000)] [(100000, (113, [.bor u0 5 (.int .u8) c, yi d, yi e])), (3, (30, [yi f, yi g, .sn 3 tI h none])), (4, (30, [yi i, yi j, .nil]))] []
def f127l4 : Clean := ⟨[0, 3, 4, 5, 6, 100000], [100000, 3, 4], [], [(⟨true, 3, 2⟩, 3, .int .i64)], []⟩
def f127s5 (u0 : Value) (a : LI) (b c : Int) (d : List Int) (e f : Int) : St := stOf [(4, xb 4), (100000, xb 100000)] [(4, (30, [yi b, yi c, .own 20000258])), (100000, (113, [.bor u0 5 (.int .u8) d, yi e, yi f]))] [(20000258, (⟨3, .int .i64, a, true, false⟩ : Row))]
def f127l5 : Clean := ⟨[4, 100000], [4, 100000], [], [], [(⟨true, 4, 2⟩, 20000258)]⟩
def f127B : Nat → Option Clean := lookL [(0, f127l1), (1000000, f127l5)]
abbrev f127i {ρ : Type} (N : Nat) (c : Code) (p : Plan) (σ : St) (K : KT ρ) : Option ρ := iCode f127G tab f127B N c p σ K
def f127c (n : Nat) : Code := codeN 99 (bodyOf Try.f127) n
theorem f127t1 N u0 b0 r0 a (K : KT ρ) : f127i N (f127c 2) .n (f127s0 u0 b0 r0 a) (joinK (some f127l1) K) =
 spec_dMoved.Z1 N b0 r0 a (fun b c d e f g h i => K .nrm (f127s1 u0 b c d e f g h i)) := by kernel_rfl
theorem f127t3 N u0 a b c d e f g h (K : KT ρ) : f127i N (f127c 5) .n (f127s1 u0 a b c d e f g h) (joinK (some f127l2) K) =
 spec_dMoved.Z3 N a b c d e f g h (fun i a b c d e f g h => K .nrm (f127s2 u0 i a b c d e f g h)) := by kernel_rfl
theorem f127t6 N u0 a b c d e f g h i (K : KT ρ) : f127i N (f127c 19) .n (f127s2 u0 a b c d e f g h i) (joinK (some f127l3) K) =
 spec_dMoved.Z6 N a b c d e f g h i (fun a j b c d e f g h i => K .nrm (f127s3 u0 a j b c d e f g h i)) := by kernel_rfl
theorem f127t9 N u0 i j a b c d e f g h (K : KT ρ) : f127i N (f127c 75) .n (f127s4 u0 i j a b c d e f g h) (joinK (some f127l4) K) =
 spec_dMoved.Z9 N i j a b c d e f g h (fun i j a b c d e f g h => K .nrm (f127s4 u0 i j a b c d e f g h)) (fun a b c d e f g h => K (.exit 0) (f127s1 u0 a b c d e f g h)) := by kernel_rfl
def f127p8 : Plan := .mk none (some f127l4) .n .n
abbrev f127w8 {ρ : Type} (N M : Nat) (σ : St) (K : KT ρ) : Option ρ := loopC (fun σ K => f127i N (f127c 75) .n σ K) f127l4 M σ K
theorem f127t8L {ρ : Type} (N : Nat) (u0 : Value) (K : KT ρ) : ∀ (M : Nat) (i j : Int) (a : List Int) (b c d e : Int) (f : LI) (g h : Int), f127w8 N M (f127s4 u0 i j a b c d e f g h) K =
 spec_dMoved.Z8L N (fun a b c d e f g h => K (.exit 0) (f127s1 u0 a b c d e f g h)) M i j a b c d e f g h
 | 0, _, _, _, _, _, _, _, _, _, _ => rfl
 | M + 1, i, j, a, b, c, d, e, f, g, h => viaRoundS (fun k => spec_dMoved.Z9 N i j a b c d e f g h k (fun a b c d e f g h => K (.exit 0) (f127s1 u0 a b c d e f g h))) (f127t9 N u0 (K := seqK (fun σ => f127w8 N M σ K) K) ..) (fx10 fun i j a b c d e f g h => f127t8L N u0 K M i j a b c d e f g h) (by kernel_rfl)
theorem f127t8 N u0 i j a b c d e f g h (K : KT ρ) : f127i N (f127c 43) f127p8 (f127s3 u0 i j a b c d e f g h) (joinK (some f127l1) K) =
  spec_dMoved.Z8 N i j a b c d e f g h (fun a b c d e f g h => K (.exit 0) (f127s1 u0 a b c d e f g h)) :=
 viaLoopS (by kernel_rfl) (f127t8L N u0 (joinK (some f127l1) K) N i j a b c d e f g h) (by kernel_rfl)
def f127p7 : Plan := .mk (some f127l1) none f127p8 .n
theorem f127t7 N u0 i j a b c d e f g h (K : KT ρ) : f127i N (f127c 27) f127p7 (f127s3 u0 i j a b c d e f g h) (joinK (some f127l1) K) =
  spec_dMoved.Z7 N i j a b c d e f g h (fun a b c d e f g h => K .nrm (f127s1 u0 a b c d e f g h)) :=
 viaBlockS (by kernel_rfl) (f127t8 N u0 (K := blockK 0 (joinK (some f127l1) K)) ..) (by kernel_rfl)
def f127p5 : Plan := .mk (some f127l3) none .n f127p7
theorem f127t5 N u0 i a b c d e f g h (K : KT ρ) : f127i N (f127c 11) f127p5 (f127s2 u0 i a b c d e f g h) (joinK (some f127l1) K) =
  spec_dMoved.Z5 N i a b c d e f g h (fun a b c d e f g h => K .nrm (f127s1 u0 a b c d e f g h)) :=
 viaSeqS (fun k => spec_dMoved.Z6 N i a b c d e f g h k) (by kernel_rfl) (f127t6 N u0 (K := seqK (fun σ => f127i N (f127c 27) f127p7 σ (joinK (some f127l1) K)) (joinK (some f127l1) K)) ..) (fx10 fun i j a b c d e f g h => f127t7 N u0 i j a b c d e f g h K) (by kernel_rfl)
theorem f127t10 N u0 a b c f g h d e (K : KT ρ) : f127i N (f127c 15) .n (f127s1 u0 a b c f g h d e) (joinK (some f127lE) K) =
 spec_dMoved.Z10 N a b c f g h d e (fun i d e a b c => K .ret (f127s5 u0 i d e a b c)) := by kernel_rfl
def f127p4 : Plan := .mk (some f127l1) none f127p5 .n
theorem f127t4 N u0 i a b c f g h d e (K : KT ρ) : f127i N (f127c 7) f127p4 (f127s2 u0 i a b c f g h d e) (joinK (some f127lE) K) =
  spec_dMoved.Z4 N i a b c f g h d e (fun j d e a b c => K .ret (f127s5 u0 j d e a b c)) :=
 viaSeqS (fun k => spec_dMoved.Z5 N i a b c f g h d e k) (by kernel_rfl) (f127t5 N u0 (K := seqK (fun σ => f127i N (f127c 15) .n σ (joinK (some f127lE) K)) (joinK (some f127lE) K)) ..) (fx8 fun a b c f g h d e => f127t10 N u0 a b c f g h d e K) (by kernel_rfl)
def f127p2 : Plan := .mk (some f127l2) none .n f127p4
theorem f127t2 N u0 a b c f g h d e (K : KT ρ) : f127i N (f127c 3) f127p2 (f127s1 u0 a b c f g h d e) (joinK (some f127lE) K) =
  spec_dMoved.Z2 N a b c f g h d e (fun i d e a b c => K .ret (f127s5 u0 i d e a b c)) :=
 viaSeqS (fun k => spec_dMoved.Z3 N a b c f g h d e k) (by kernel_rfl) (f127t3 N u0 (K := seqK (fun σ => f127i N (f127c 7) f127p4 σ (joinK (some f127lE) K)) (joinK (some f127lE) K)) ..) (fx9 fun j a b c f g h d e => f127t4 N u0 j a b c f g h d e K) (by kernel_rfl)
def f127p0 : Plan := .mk (some f127l1) none .n f127p2
theorem f127t0 N u0 b0 r0 a (K : KT ρ) : f127i N (f127c 1) f127p0 (f127s0 u0 b0 r0 a) (joinK (some f127lE) K) =
  spec_dMoved.Z0 N b0 r0 a (fun g b c d e f => K .ret (f127s5 u0 g b c d e f)) :=
 viaSeqS (fun k => spec_dMoved.Z1 N b0 r0 a k) (by kernel_rfl) (f127t1 N u0 (K := seqK (fun σ => f127i N (f127c 3) f127p2 σ (joinK (some f127lE) K)) (joinK (some f127lE) K)) ..) (fx8 fun d e f h i j b c => f127t2 N u0 d e f h i j b c K) (by kernel_rfl)
theorem f127m (N : Nat) (u0 : Value) (b0 : List Int) (r0 : Int × Int) (a : MT) : f127i N (f127c 1) f127p0 (f127s0 u0 b0 r0 a) (joinK (some f127lE) (finKV tab f127k f127ps true f127rs Try.f127.results.toList)) = spec_dMoved.Z0 N b0 r0 a (fun b c d g e f => some ([u0], ((e, f), ((), ((c, (d, b)), ()))))) :=
 (f127t0 N u0 b0 r0 a (finKV tab f127k f127ps true f127rs Try.f127.results.toList)).trans (by kernel_rfl)
theorem f127ok (h : spec_dMoved.Spec) : EntryVOk Try.prog 127 e127 :=
 entryV_of_code (k := f127k) (ps := f127ps) (rs := f127rs) (back := true) (c := (f127c 1)) (pl := f127p0) (je := (some f127lE)) (B := f127B) Try.func127 (by kernel_rfl) (by kernel_rfl) (by kernel_rfl) tabOk f127GOk (by kernel_rfl) (by kernel_rfl) (by kernel_rfl) fun lit X hl hb1 hb2 hp => by
  obtain ⟨⟨⟨b0, _⟩, r0⟩, a, _⟩ := X
  match lit, hl with
  | [u0], _ =>
   obtain ⟨N, h⟩ := h [u0] b0 r0 a hb1.1 hb2.1 hp
   exact ⟨N, (f127m N u0 b0 r0 a).trans (h N (Nat.le_refl N))⟩
theorem e127ok : EntryVOk Try.prog 127 e127 := f127ok spec_dMoved.ok
end Go.Fw
namespace Go.Fw
variable {ρ : Type}
open Go.Proofs
def f106k : VarK := ⟨113, [(5, .int .u8)], .pair (.int .i64) (.int .i64)⟩
def f106ps : List PT := [⟨.int .i64, false, false⟩]
def f106rs : List PT := [⟨.pair (.int .i64) (.pair (.int .i64) (.sl 3 (.int .i64))), true, false⟩, ⟨.str, false, false⟩]
def e106 : EntryV := ⟨f106k, f106ps, true, f106rs, (some fun X => spec_dFinite.P X.1.1.1 X.1.2 X.2.1), fun X => ((spec_dFinite.g X.1.1.1 X.1.2 X.2.1).1, ((), ((spec_dFinite.g X.1.1.1 X.1.2 X.2.1).2.1, ((spec_dFinite.g X.1.1.1 X.1.2 X.2.1).2.2, ()))))⟩
def f106G : Gm := addV (addV emptyG 126 e126) 127 e127
theorem f106GOk : GOk Try.prog f106G := ((GOk.nil).addV e126ok (by kernel_rfl)).addV e127ok (by kernel_rfl)
def f106lE : Clean := ⟨[], [], [], [], []⟩
def f106s0 (u0 : Value) (b0 : List Int) (r0 : Int × Int) (a : Int) : St := initStV f106k f106ps [u0] (((b0, ()), r0), (a, ()))
def f106s1 (u0 : Value) (a : LI) (b : ByteArray) (d e : Int) (f : List Int) (g h : Int) : St := stOf [(4, xb 4), (5, .c (.str b)), (100000, xb 100000)] [(4, (30, [yi d, yi e, .own 20000258])), (100000, (113, [.bor u0 5 (.int .u8) f, yi g, yi h]))] [(20000258, (⟨3, .int .i64, a, true, false⟩ : Row))]
def f106l1 : Clean := ⟨[4, 5, 100000], [4, 100000], [], [], [(⟨true, 4, 2⟩, 20000258)]⟩
def f106B : Nat → Option Clean := lookL [(1000000, f106l1)]
abbrev f106i {ρ : Type} (N : Nat) (c : Code) (p : Plan) (σ : St) (K : KT ρ) : Option ρ := iCode f106G tab f106B N c p σ K
def f106c (n : Nat) : Code := codeN 99 (bodyOf Try.f106) n
theorem f106t0 N u0 b0 r0 a (K : KT ρ) : f106i N (f106c 1) .n (f106s0 u0 b0 r0 a) (joinK (some f106lE) K) =
 spec_dFinite.Z0 N b0 r0 a (fun b c d e f g h => K .ret (f106s1 u0 b c d e f g h)) := by kernel_rfl
theorem f106m (N : Nat) (u0 : Value) (b0 : List Int) (r0 : Int × Int) (a : Int) : f106i N (f106c 1) .n (f106s0 u0 b0 r0 a) (joinK (some f106lE) (finKV tab f106k f106ps true f106rs Try.f106.results.toList)) = spec_dFinite.Z0 N b0 r0 a (fun b c d e h f g => some ([u0], ((f, g), ((), ((d, (e, b)), (c, ())))))) :=
 (f106t0 N u0 b0 r0 a (finKV tab f106k f106ps true f106rs Try.f106.results.toList)).trans (by kernel_rfl)
theorem f106ok (h : spec_dFinite.Spec) : EntryVOk Try.prog 106 e106 :=
 entryV_of_code (k := f106k) (ps := f106ps) (rs := f106rs) (back := true) (c := (f106c 1)) (pl := .n) (je := (some f106lE)) (B := f106B) Try.func106 (by kernel_rfl) (by kernel_rfl) (by kernel_rfl) tabOk f106GOk (by kernel_rfl) (by kernel_rfl) (by kernel_rfl) fun lit X hl hb1 hb2 hp => by
  obtain ⟨⟨⟨b0, _⟩, r0⟩, a, _⟩ := X
  match lit, hl with
  | [u0], _ =>
   obtain ⟨N, h⟩ := h [u0] b0 r0 a hb1.1 hp
   exact ⟨N, (f106m N u0 b0 r0 a).trans (h N (Nat.le_refl N))⟩
theorem e106ok : EntryVOk Try.prog 106 e106 := f106ok spec_dFinite.ok
end Go.Fw
namespace Go.Fw
variable {ρ : Type}
open Go.Proofs
def f67k : VarK := ⟨113, [(5, .int .u8)], .pair (.int .i64) (.int .i64)⟩
def f67ps : List PT := []
def f67rs : List PT := [⟨.pair (.int .i64) (.pair (.int .i64) (.sl 3 (.int .i64))), true, false⟩]
def e67 : EntryV := ⟨f67k, f67ps, true, f67rs, (some fun X => spec_dMatrix.P X.1.1.1 X.1.2), fun X => ((spec_dMatrix.g X.1.1.1 X.1.2).1, ((), ((spec_dMatrix.g X.1.1.1 X.1.2).2, ())))⟩
def f67G : Gm := addV (addV (addV emptyG 104 e104) 105 e105) 106 e106
theorem f67GOk : GOk Try.prog f67G := (((GOk.nil).addV e104ok (by kernel_rfl)).addV e105ok (by kernel_rfl)).addV e106ok (by kernel_rfl)
def f67lE : Clean := ⟨[], [], [], [], []⟩
def f67s0 (u0 : Value) (b0 : List Int) (r0 : Int × Int) : St := initStV f67k f67ps [u0] (((b0, ()), r0), ())
def f67s1 (u0 : Value) (a : LI) (b c : Int) (d : List Int) (e f : Int) : St := stOf [(2, xb 2), (100000, xb 100000)] [(2, (30, [yi b, yi c, .own 20000130])), (100000, (113, [.bor u0 5 (.int .u8) d, yi e, yi f]))] [(20000130, (⟨3, .int .i64, a, true, false⟩ : Row))]
def f67l1 : Clean := ⟨[2, 100000], [2, 100000], [], [], [(⟨true, 2, 2⟩, 20000130)]⟩
def f67B : Nat → Option Clean := lookL [(1000000, f67l1)]
abbrev f67i {ρ : Type} (N : Nat) (c : Code) (p : Plan) (σ : St) (K : KT ρ) : Option ρ := iCode f67G tab f67B N c p σ K
def f67c (n : Nat) : Code := codeN 99 (bodyOf Try.f67) n
theorem f67t0 N u0 b0 r0 (K : KT ρ) : f67i N (f67c 1) .n (f67s0 u0 b0 r0) (joinK (some f67lE) K) =
 spec_dMatrix.Z0 N b0 r0 (fun a b c d e f => K .ret (f67s1 u0 a b c d e f)) := by kernel_rfl
theorem f67m (N : Nat) (u0 : Value) (b0 : List Int) (r0 : Int × Int) : f67i N (f67c 1) .n (f67s0 u0 b0 r0) (joinK (some f67lE) (finKV tab f67k f67ps true f67rs Try.f67.results.toList)) = spec_dMatrix.Z0 N b0 r0 (fun a b c f d e => some ([u0], ((d, e), ((), ((b, (c, a)), ()))))) :=
 (f67t0 N u0 b0 r0 (finKV tab f67k f67ps true f67rs Try.f67.results.toList)).trans (by kernel_rfl)
theorem f67ok (h : spec_dMatrix.Spec) : EntryVOk Try.prog 67 e67 :=
 entryV_of_code (k := f67k) (ps := f67ps) (rs := f67rs) (back := true) (c := (f67c 1)) (pl := .n) (je := (some f67lE)) (B := f67B) Try.func67 (by kernel_rfl) (by kernel_rfl) (by kernel_rfl) tabOk f67GOk (by kernel_rfl) (by kernel_rfl) (by kernel_rfl) fun lit X hl hb1 hb2 hp => by
  obtain ⟨⟨⟨b0, _⟩, r0⟩, _⟩ := X
  match lit, hl with
  | [u0], _ =>
   obtain ⟨N, h⟩ := h [u0] b0 r0 hb1.1 hp
   exact ⟨N, (f67m N u0 b0 r0).trans (h N (Nat.le_refl N))⟩
theorem e67ok : EntryVOk Try.prog 67 e67 := f67ok spec_dMatrix.ok
end Go.Fw
