/- The ties: the program's text comes to the plain functions. Nothing is assumed. -/
import Derived.Test.YtojjkghallginaaFwc
import Derived.Test.YtojjkghallginaaProg
import Derived.Test.YtojjkghallginaaPuFnExactIsAcyclica
noncomputable section
set_option linter.unusedVariables false
set_option linter.unusedSimpArgs false
set_option maxRecDepth 100000
namespace Go.Fw
open Go.Proofs
def tab : Tab := lookTab [
 (2, ⟨false, .int .i64, [.int .i64 0], [], none, 8⟩),
 (3, ⟨false, .int .i64, [.int .i64 0], [], none, 8⟩),
 (4, ⟨false, .bool, [.bool false], [], none, 1⟩),
 (5, ⟨false, .int .u8, [.int .u8 0], [], none, 1⟩),
 (6, ⟨false, .int .u8, [.int .u8 0], [], none, 1⟩),
 (7, ⟨true, .pair (.int .i64) (.pair (.int .i64) (.pair (.bool) (.int .u8))), [.int .i64 0, .int .i64 0, .bool false, .int .u8 0], [(0, 1, false), (1, 1, false), (2, 1, false), (3, 1, false)], none, 24⟩),
 (8, ⟨true, .pair (.int .i64) (.pair (.int .i64) (.pair (.bool) (.int .u8))), [.int .i64 0, .int .i64 0, .bool false, .int .u8 0], [(0, 1, false), (1, 1, false), (2, 1, false), (3, 1, false)], none, 24⟩),
 (9, ⟨false, .str, [.str ByteArray.empty], [], none, 16⟩),
 (10, ⟨false, .str, [.str ByteArray.empty], [], none, 16⟩),
 (11, ⟨false, .str, [.str ByteArray.empty], [], none, 16⟩),
 (12, ⟨false, .int .u64, [.int .u64 0], [], none, 8⟩),
 (13, ⟨true, .pair (.str) (.int .u64), [.str ByteArray.empty, .int .u64 0], [(0, 1, false), (1, 1, false)], none, 24⟩),
 (14, ⟨true, .pair (.str) (.int .u64), [.str ByteArray.empty, .int .u64 0], [(0, 1, false), (1, 1, false)], none, 24⟩),
 (20, ⟨false, .err, [.err false], [], none, 16⟩),
 (21, ⟨false, .int .i32, [.int .i32 0], [], none, 4⟩),
 (23, ⟨false, .sl 59 (.pair (.sl 3 (.int .i64)) (.int .i64)), [.nil], [], some 59, 24⟩),
 (24, ⟨true, .pair (.int .i64) (.sl 59 (.pair (.sl 3 (.int .i64)) (.int .i64))), [.int .i64 0, .nil], [(0, 1, false), (1, 1, false)], none, 32⟩),
 (25, ⟨true, .pair (.int .i64) (.sl 59 (.pair (.sl 3 (.int .i64)) (.int .i64))), [.int .i64 0, .nil], [(0, 1, false), (1, 1, false)], none, 32⟩),
 (30, ⟨false, .sl 3 (.int .i64), [.nil], [], some 3, 24⟩),
 (36, ⟨false, .sl 79 (.pair (.sl 3 (.int .i64)) (.int .i64)), [.nil], [], some 79, 24⟩),
 (37, ⟨true, .pair (.int .i64) (.sl 79 (.pair (.sl 3 (.int .i64)) (.int .i64))), [.int .i64 0, .nil], [(0, 1, false), (1, 1, false)], none, 32⟩),
 (38, ⟨true, .pair (.int .i64) (.sl 79 (.pair (.sl 3 (.int .i64)) (.int .i64))), [.int .i64 0, .nil], [(0, 1, false), (1, 1, false)], none, 32⟩),
 (43, ⟨true, .pair (.int .i64) (.pair (.int .i64) (.sl 3 (.int .i64))), [.int .i64 0, .int .i64 0, .nil], [(0, 1, false), (1, 1, false), (2, 1, false)], none, 40⟩),
 (44, ⟨true, .pair (.int .i64) (.pair (.int .i64) (.sl 3 (.int .i64))), [.int .i64 0, .int .i64 0, .nil], [(0, 1, false), (1, 1, false), (2, 1, false)], none, 40⟩),
 (47, ⟨true, .pair (.int .i64) (.pair (.int .i64) (.sl 3 (.int .i64))), [.int .i64 0, .int .i64 0, .nil], [(0, 1, false), (1, 1, false), (2, 1, false)], none, 40⟩),
 (58, ⟨true, .pair (.sl 3 (.int .i64)) (.int .i64), [.nil, .int .i64 0], [(0, 1, false), (1, 1, false)], none, 32⟩),
 (59, ⟨true, .pair (.sl 3 (.int .i64)) (.int .i64), [.nil, .int .i64 0], [(0, 1, false), (1, 1, false)], none, 32⟩),
 (71, ⟨false, .sl 4 (.bool), [.nil], [], some 4, 24⟩),
 (73, ⟨false, .pair (.int .i64) (.sl 0 .bool), [.undef], [], none, 8⟩),
 (79, ⟨true, .pair (.sl 3 (.int .i64)) (.int .i64), [.nil, .int .i64 0], [(0, 1, false), (1, 1, false)], none, 32⟩),
 (92, ⟨false, .int .u32, [.int .u32 0], [], none, 4⟩),
 (93, ⟨false, .int .u8, [.int .u8 0], [], none, 1⟩),
 (94, ⟨false, .int .u8, [.int .u8 0], [], none, 1⟩),
 (97, ⟨false, .int .i32, [.int .i32 0], [], none, 4⟩),
 (98, ⟨false, .int .i32, [.int .i32 0], [], none, 4⟩)]
theorem tabOk : TOk Try.prog tab := TOk.of (by kernel_rfl)
instance : Inv Try.prog := Inv.triv _
end Go.Fw
namespace Go.Fw
variable {ρ : Type}
open Go.Proofs
def f63sig : Sig := ⟨[⟨.sl 3 (.int .i64), false, false⟩, ⟨.int .i64, false, false⟩], [⟨.int .i64, false, false⟩]⟩
def e63 : Entry := ⟨f63sig, none, fun X => ((), ((laws_szIntS.g X.1 X.2.1), ()))⟩
def f63G : Gm := emptyG
theorem f63GOk : GOk Try.prog f63G := GOk.nil
def f63lE : Clean := ⟨[], [], [], [], []⟩
def f63s0 (a : LI) (b : Int) : St := initSt f63sig.ps (a, (b, ()))
def f63s1 (a : Int) : St := stOf [(4, xi a)] [] []
def f63l1 : Clean := ⟨[4], [], [], [], []⟩
def f63B : Nat → Option Clean := lookL [(1000000, f63l1)]
abbrev f63i {ρ : Type} (N : Nat) (c : Code) (p : Plan) (σ : St) (K : KT ρ) : Option ρ := iCode f63G tab f63B N c p σ K
def f63c (n : Nat) : Code := codeN 99 (bodyOf Try.f63) n
theorem f63t0 N a b (K : KT ρ) : f63i N (f63c 1) .n (f63s0 a b) (joinK (some f63lE) K) =
 laws_szIntS.Z0 N a b (fun c => K .ret (f63s1 c)) := by kernel_rfl
theorem f63m (N : Nat) (a : LI) (b : Int) : f63i N (f63c 1) .n (f63s0 a b) (joinK (some f63lE) (finK tab f63sig Try.f63.results.toList)) = laws_szIntS.Z0 N a b (fun c => some ((), (c, ()))) :=
 (f63t0 N a b (finK tab f63sig Try.f63.results.toList)).trans (by kernel_rfl)
theorem f63ok (h : laws_szIntS.Spec) : EntryOk Try.prog 63 e63 :=
 entry_of_code (sig := f63sig) (c := (f63c 1)) (pl := .n) (je := (some f63lE)) (B := f63B) Try.func63 (by kernel_rfl) (by kernel_rfl) (by kernel_rfl) tabOk f63GOk (by kernel_rfl) (by kernel_rfl) (by kernel_rfl) (by kernel_rfl) fun X hb hp => by
  obtain ⟨a, b, _⟩ := X
  obtain ⟨N, h⟩ := h a b hb.1
  exact ⟨N, (f63m N a b).trans (h N (Nat.le_refl N))⟩
theorem e63ok : EntryOk Try.prog 63 e63 := f63ok laws_szIntS.ok
end Go.Fw
namespace Go.Fw
variable {ρ : Type}
open Go.Proofs
def f30sig : Sig := ⟨[⟨.pair (.int .i64) (.pair (.int .i64) (.sl 3 (.int .i64))), true, false⟩, ⟨.int .i64, false, false⟩], [⟨.int .i64, false, false⟩]⟩
def e30 : Entry := ⟨f30sig, none, fun X => ((), ((laws_szMatrix.g X.1 X.2.1), ()))⟩
def f30G : Gm := addG emptyG 63 e63
theorem f30GOk : GOk Try.prog f30G := (GOk.nil).add e63ok (by kernel_rfl)
def f30lE : Clean := ⟨[], [], [], [], []⟩
def f30s0 (a : MT) (b : Int) : St := initSt f30sig.ps (a, (b, ()))
def f30s1 (a : Int) : St := stOf [(4, xi a)] [] []
def f30l1 : Clean := ⟨[4], [], [], [], []⟩
def f30B : Nat → Option Clean := lookL [(1000000, f30l1)]
abbrev f30i {ρ : Type} (N : Nat) (c : Code) (p : Plan) (σ : St) (K : KT ρ) : Option ρ := iCode f30G tab f30B N c p σ K
def f30c (n : Nat) : Code := codeN 99 (bodyOf Try.f30) n
theorem f30t0 N a b (K : KT ρ) : f30i N (f30c 1) .n (f30s0 a b) (joinK (some f30lE) K) =
 laws_szMatrix.Z0 N a b (fun c => K .ret (f30s1 c)) := by kernel_rfl
theorem f30m (N : Nat) (a : MT) (b : Int) : f30i N (f30c 1) .n (f30s0 a b) (joinK (some f30lE) (finK tab f30sig Try.f30.results.toList)) = laws_szMatrix.Z0 N a b (fun c => some ((), (c, ()))) :=
 (f30t0 N a b (finK tab f30sig Try.f30.results.toList)).trans (by kernel_rfl)
theorem f30ok (h : laws_szMatrix.Spec) : EntryOk Try.prog 30 e30 :=
 entry_of_code (sig := f30sig) (c := (f30c 1)) (pl := .n) (je := (some f30lE)) (B := f30B) Try.func30 (by kernel_rfl) (by kernel_rfl) (by kernel_rfl) tabOk f30GOk (by kernel_rfl) (by kernel_rfl) (by kernel_rfl) (by kernel_rfl) fun X hb hp => by
  obtain ⟨a, b, _⟩ := X
  obtain ⟨N, h⟩ := h a b hb.1
  exact ⟨N, (f30m N a b).trans (h N (Nat.le_refl N))⟩
theorem e30ok : EntryOk Try.prog 30 e30 := f30ok laws_szMatrix.ok
end Go.Fw
namespace Go.Fw
variable {ρ : Type}
open Go.Proofs
def f20sig : Sig := ⟨[⟨.sl 3 (.int .i64), false, false⟩], [⟨.sl 3 (.int .i64), false, false⟩]⟩
def e20 : Entry := ⟨f20sig, (some fun X => laws_toIntS.P X.1), fun X => ((), ((laws_toIntS.g X.1), ()))⟩
def f20G : Gm := emptyG
theorem f20GOk : GOk Try.prog f20G := GOk.nil
def f20lE : Clean := ⟨[], [], [], [], []⟩
def f20s0 (a : LI) : St := initSt f20sig.ps (a, ())
def f20s1 (a : LI) : St := stOf [(0, .c (.sn 3 tI a none))] [] []
def f20l1 : Clean := ⟨[0], [], [], [], []⟩
def f20s2 (a b : LI) : St := stOf [(0, .c (.sn 3 tI b none)), (3, xo 1000192)] [] [(1000192, (⟨3, .int .i64, a, true, false⟩ : Row))]
def f20l2 : Clean := ⟨[0, 3], [], [], [], [(⟨false, 3, 0⟩, 1000192)]⟩
def f20s3 (a b : LI) (d : Int) : St := stOf [(0, .c (.sn 3 tI b none)), (3, xo 1000192), (4, xi d)] [] [(1000192, (⟨3, .int .i64, a, true, false⟩ : Row))]
def f20l3 : Clean := ⟨[0, 3, 4], [], [], [], [(⟨false, 3, 0⟩, 1000192)]⟩
def f20s4 (a : LI) : St := stOf [(3, xo 1000192)] [] [(1000192, (⟨3, .int .i64, a, true, false⟩ : Row))]
def f20l4 : Clean := ⟨[3], [], [], [], [(⟨false, 3, 0⟩, 1000192)]⟩
def f20s5 (a : LI) : St := stOf [(2, xo 1000128)] [] [(1000128, (⟨3, .int .i64, a, true, false⟩ : Row))]
def f20l5 : Clean := ⟨[2], [], [], [], [(⟨false, 2, 0⟩, 1000128)]⟩
def f20B : Nat → Option Clean := lookL [(0, f20l4), (1000000, f20l5)]
abbrev f20i {ρ : Type} (N : Nat) (c : Code) (p : Plan) (σ : St) (K : KT ρ) : Option ρ := iCode f20G tab f20B N c p σ K
def f20c (n : Nat) : Code := codeN 99 (bodyOf Try.f20) n
theorem f20t1 N a (K : KT ρ) : f20i N (f20c 2) .n (f20s0 a) (joinK (some f20l1) K) =
 laws_toIntS.Z1 N a (fun a => K .nrm (f20s1 a)) := by kernel_rfl
theorem f20t3 N a (K : KT ρ) : f20i N (f20c 5) .n (f20s1 a) (joinK (some f20l2) K) =
 laws_toIntS.Z3 N a (fun b a => K .nrm (f20s2 b a)) := by kernel_rfl
theorem f20t6 N a b (K : KT ρ) : f20i N (f20c 19) .n (f20s2 a b) (joinK (some f20l3) K) =
 laws_toIntS.Z6 N a b (fun a b c => K .nrm (f20s3 a b c)) := by kernel_rfl
theorem f20t9 N a b c (K : KT ρ) : f20i N (f20c 75) .n (f20s3 a b c) (joinK (some f20l3) K) =
 laws_toIntS.Z9 N a b c (fun a b c => K .nrm (f20s3 a b c)) (fun a => K (.exit 0) (f20s4 a)) := by kernel_rfl
def f20p8 : Plan := .mk none (some f20l3) .n .n
abbrev f20w8 {ρ : Type} (N M : Nat) (σ : St) (K : KT ρ) : Option ρ := loopC (fun σ K => f20i N (f20c 75) .n σ K) f20l3 M σ K
theorem f20t8L {ρ : Type} (N : Nat) (K : KT ρ) : ∀ (M : Nat) (a b : LI) (c : Int), f20w8 N M (f20s3 a b c) K =
 laws_toIntS.Z8L N (fun a => K (.exit 0) (f20s4 a)) M a b c
 | 0, _, _, _ => rfl
 | M + 1, a, b, c => viaRoundS (fun k => laws_toIntS.Z9 N a b c k (fun a => K (.exit 0) (f20s4 a))) (f20t9 N (K := seqK (fun σ => f20w8 N M σ K) K) ..) (fx3 fun a b c => f20t8L N K M a b c) (by kernel_rfl)
theorem f20t8 N a b c (K : KT ρ) : f20i N (f20c 43) f20p8 (f20s3 a b c) (joinK (some f20l4) K) =
  laws_toIntS.Z8 N a b c (fun a => K (.exit 0) (f20s4 a)) :=
 viaLoopS (by kernel_rfl) (f20t8L N (joinK (some f20l4) K) N a b c) (by kernel_rfl)
def f20p7 : Plan := .mk (some f20l4) none f20p8 .n
theorem f20t7 N a b c (K : KT ρ) : f20i N (f20c 27) f20p7 (f20s3 a b c) (joinK (some f20l4) K) =
  laws_toIntS.Z7 N a b c (fun a => K .nrm (f20s4 a)) :=
 viaBlockS (by kernel_rfl) (f20t8 N (K := blockK 0 (joinK (some f20l4) K)) ..) (by kernel_rfl)
def f20p5 : Plan := .mk (some f20l3) none .n f20p7
theorem f20t5 N a b (K : KT ρ) : f20i N (f20c 11) f20p5 (f20s2 a b) (joinK (some f20l4) K) =
  laws_toIntS.Z5 N a b (fun a => K .nrm (f20s4 a)) :=
 viaSeqS (fun k => laws_toIntS.Z6 N a b k) (by kernel_rfl) (f20t6 N (K := seqK (fun σ => f20i N (f20c 27) f20p7 σ (joinK (some f20l4) K)) (joinK (some f20l4) K)) ..) (fx3 fun a b c => f20t7 N a b c K) (by kernel_rfl)
theorem f20t10 N a (K : KT ρ) : f20i N (f20c 15) .n (f20s4 a) (joinK (some f20lE) K) =
 laws_toIntS.Z10 N a (fun b => K .ret (f20s5 b)) := by kernel_rfl
def f20p4 : Plan := .mk (some f20l4) none f20p5 .n
theorem f20t4 N a b (K : KT ρ) : f20i N (f20c 7) f20p4 (f20s2 a b) (joinK (some f20lE) K) =
  laws_toIntS.Z4 N a b (fun c => K .ret (f20s5 c)) :=
 viaSeqS (fun k => laws_toIntS.Z5 N a b k) (by kernel_rfl) (f20t5 N (K := seqK (fun σ => f20i N (f20c 15) .n σ (joinK (some f20lE) K)) (joinK (some f20lE) K)) ..) (funext fun a => f20t10 N a K) (by kernel_rfl)
def f20p2 : Plan := .mk (some f20l2) none .n f20p4
theorem f20t2 N a (K : KT ρ) : f20i N (f20c 3) f20p2 (f20s1 a) (joinK (some f20lE) K) =
  laws_toIntS.Z2 N a (fun b => K .ret (f20s5 b)) :=
 viaSeqS (fun k => laws_toIntS.Z3 N a k) (by kernel_rfl) (f20t3 N (K := seqK (fun σ => f20i N (f20c 7) f20p4 σ (joinK (some f20lE) K)) (joinK (some f20lE) K)) ..) (fx2 fun c a => f20t4 N c a K) (by kernel_rfl)
def f20p0 : Plan := .mk (some f20l1) none .n f20p2
theorem f20t0 N a (K : KT ρ) : f20i N (f20c 1) f20p0 (f20s0 a) (joinK (some f20lE) K) =
  laws_toIntS.Z0 N a (fun b => K .ret (f20s5 b)) :=
 viaSeqS (fun k => laws_toIntS.Z1 N a k) (by kernel_rfl) (f20t1 N (K := seqK (fun σ => f20i N (f20c 3) f20p2 σ (joinK (some f20lE) K)) (joinK (some f20lE) K)) ..) (funext fun a => f20t2 N a K) (by kernel_rfl)
theorem f20m (N : Nat) (a : LI) : f20i N (f20c 1) f20p0 (f20s0 a) (joinK (some f20lE) (finK tab f20sig Try.f20.results.toList)) = laws_toIntS.Z0 N a (fun b => some ((), (b, ()))) :=
 (f20t0 N a (finK tab f20sig Try.f20.results.toList)).trans (by kernel_rfl)
theorem f20ok (h : laws_toIntS.Spec) : EntryOk Try.prog 20 e20 :=
 entry_of_code (sig := f20sig) (c := (f20c 1)) (pl := f20p0) (je := (some f20lE)) (B := f20B) Try.func20 (by kernel_rfl) (by kernel_rfl) (by kernel_rfl) tabOk f20GOk (by kernel_rfl) (by kernel_rfl) (by kernel_rfl) (by kernel_rfl) fun X hb hp => by
  obtain ⟨a, _⟩ := X
  obtain ⟨N, h⟩ := h a hb.1 hp
  exact ⟨N, (f20m N a).trans (h N (Nat.le_refl N))⟩
theorem e20ok : EntryOk Try.prog 20 e20 := f20ok laws_toIntS.ok
end Go.Fw
namespace Go.Fw
variable {ρ : Type}
open Go.Proofs
def f32sig : Sig := ⟨[⟨.pair (.int .i64) (.pair (.int .i64) (.sl 3 (.int .i64))), true, false⟩], [⟨.pair (.int .i64) (.pair (.int .i64) (.sl 3 (.int .i64))), true, false⟩]⟩
def e32 : Entry := ⟨f32sig, (some fun X => laws_toMatrix.P X.1), fun X => ((), ((laws_toMatrix.g X.1), ()))⟩
def f32G : Gm := addG emptyG 20 e20
theorem f32GOk : GOk Try.prog f32G := (GOk.nil).add e20ok (by kernel_rfl)
def f32lE : Clean := ⟨[], [], [], [], []⟩
def f32s0 (a : MT) : St := initSt f32sig.ps (a, ())
def f32s1 (a : LI) (b c : Int) : St := stOf [(2, xb 2)] [(2, (47, [yi b, yi c, .own 20000130]))] [(20000130, (⟨3, .int .i64, a, true, false⟩ : Row))]
def f32l1 : Clean := ⟨[2], [2], [], [], [(⟨true, 2, 2⟩, 20000130)]⟩
def f32B : Nat → Option Clean := lookL [(1000000, f32l1)]
abbrev f32i {ρ : Type} (N : Nat) (c : Code) (p : Plan) (σ : St) (K : KT ρ) : Option ρ := iCode f32G tab f32B N c p σ K
def f32c (n : Nat) : Code := codeN 99 (bodyOf Try.f32) n
theorem f32t0 N a (K : KT ρ) : f32i N (f32c 1) .n (f32s0 a) (joinK (some f32lE) K) =
 laws_toMatrix.Z0 N a (fun b c d => K .ret (f32s1 b c d)) := by kernel_rfl
theorem f32m (N : Nat) (a : MT) : f32i N (f32c 1) .n (f32s0 a) (joinK (some f32lE) (finK tab f32sig Try.f32.results.toList)) = laws_toMatrix.Z0 N a (fun b c d => some ((), ((c, (d, b)), ()))) :=
 (f32t0 N a (finK tab f32sig Try.f32.results.toList)).trans (by kernel_rfl)
theorem f32ok (h : laws_toMatrix.Spec) : EntryOk Try.prog 32 e32 :=
 entry_of_code (sig := f32sig) (c := (f32c 1)) (pl := .n) (je := (some f32lE)) (B := f32B) Try.func32 (by kernel_rfl) (by kernel_rfl) (by kernel_rfl) tabOk f32GOk (by kernel_rfl) (by kernel_rfl) (by kernel_rfl) (by kernel_rfl) fun X hb hp => by
  obtain ⟨a, _⟩ := X
  obtain ⟨N, h⟩ := h a hb.1 hp
  exact ⟨N, (f32m N a).trans (h N (Nat.le_refl N))⟩
theorem e32ok : EntryOk Try.prog 32 e32 := f32ok laws_toMatrix.ok
end Go.Fw
namespace Go.Fw
variable {ρ : Type}
open Go.Proofs
def f48sig : Sig := ⟨[⟨.int .i64, false, false⟩, ⟨.int .i64, false, false⟩, ⟨.int .i64, false, false⟩], [⟨.bool, false, false⟩]⟩
def e48 : Entry := ⟨f48sig, none, fun X => ((), ((spec_l1In.g X.1 X.2.1 X.2.2.1), ()))⟩
def f48G : Gm := emptyG
theorem f48GOk : GOk Try.prog f48G := GOk.nil
def f48lE : Clean := ⟨[], [], [], [], []⟩
def f48s0 (a b c : Int) : St := initSt f48sig.ps (a, (b, (c, ())))
def f48s1 (a : Bool) : St := stOf [(6, xB a)] [] []
def f48l1 : Clean := ⟨[6], [], [], [], []⟩
def f48B : Nat → Option Clean := lookL [(1000000, f48l1)]
abbrev f48i {ρ : Type} (N : Nat) (c : Code) (p : Plan) (σ : St) (K : KT ρ) : Option ρ := iCode f48G tab f48B N c p σ K
def f48c (n : Nat) : Code := codeN 99 (bodyOf Try.f48) n
theorem f48t0 N a b c (K : KT ρ) : f48i N (f48c 1) .n (f48s0 a b c) (joinK (some f48lE) K) =
 spec_l1In.Z0 N a b c (fun d => K .ret (f48s1 d)) := by kernel_rfl
theorem f48m (N : Nat) (a b c : Int) : f48i N (f48c 1) .n (f48s0 a b c) (joinK (some f48lE) (finK tab f48sig Try.f48.results.toList)) = spec_l1In.Z0 N a b c (fun d => some ((), (d, ()))) :=
 (f48t0 N a b c (finK tab f48sig Try.f48.results.toList)).trans (by kernel_rfl)
theorem f48ok (h : spec_l1In.Spec) : EntryOk Try.prog 48 e48 :=
 entry_of_code (sig := f48sig) (c := (f48c 1)) (pl := .n) (je := (some f48lE)) (B := f48B) Try.func48 (by kernel_rfl) (by kernel_rfl) (by kernel_rfl) tabOk f48GOk (by kernel_rfl) (by kernel_rfl) (by kernel_rfl) (by kernel_rfl) fun X hb hp => by
  obtain ⟨a, b, d, _⟩ := X
  obtain ⟨N, h⟩ := h a b d
  exact ⟨N, (f48m N a b d).trans (h N (Nat.le_refl N))⟩
theorem e48ok : EntryOk Try.prog 48 e48 := f48ok spec_l1In.ok
end Go.Fw
namespace Go.Fw
variable {ρ : Type}
open Go.Proofs
def f68sig : Sig := ⟨[⟨.pair (.int .i64) (.pair (.int .i64) (.sl 3 (.int .i64))), true, false⟩, ⟨.int .i64, false, false⟩, ⟨.int .i64, false, false⟩], [⟨.int .i64, false, false⟩]⟩
def e68 : Entry := ⟨f68sig, (some fun X => spec_l1At.P X.1 X.2.1 X.2.2.1), fun X => ((), ((spec_l1At.g X.1 X.2.1 X.2.2.1), ()))⟩
def f68G : Gm := emptyG
theorem f68GOk : GOk Try.prog f68G := GOk.nil
def f68lE : Clean := ⟨[], [], [], [], []⟩
def f68s0 (a : MT) (b c : Int) : St := initSt f68sig.ps (a, (b, (c, ())))
def f68s1 (a : Int) : St := stOf [(6, xi a)] [] []
def f68l1 : Clean := ⟨[6], [], [], [], []⟩
def f68B : Nat → Option Clean := lookL [(1000000, f68l1)]
abbrev f68i {ρ : Type} (N : Nat) (c : Code) (p : Plan) (σ : St) (K : KT ρ) : Option ρ := iCode f68G tab f68B N c p σ K
def f68c (n : Nat) : Code := codeN 99 (bodyOf Try.f68) n
theorem f68t0 N a b c (K : KT ρ) : f68i N (f68c 1) .n (f68s0 a b c) (joinK (some f68lE) K) =
 spec_l1At.Z0 N a b c (fun d => K .ret (f68s1 d)) := by kernel_rfl
theorem f68m (N : Nat) (a : MT) (b c : Int) : f68i N (f68c 1) .n (f68s0 a b c) (joinK (some f68lE) (finK tab f68sig Try.f68.results.toList)) = spec_l1At.Z0 N a b c (fun d => some ((), (d, ()))) :=
 (f68t0 N a b c (finK tab f68sig Try.f68.results.toList)).trans (by kernel_rfl)
theorem f68ok (h : spec_l1At.Spec) : EntryOk Try.prog 68 e68 :=
 entry_of_code (sig := f68sig) (c := (f68c 1)) (pl := .n) (je := (some f68lE)) (B := f68B) Try.func68 (by kernel_rfl) (by kernel_rfl) (by kernel_rfl) tabOk f68GOk (by kernel_rfl) (by kernel_rfl) (by kernel_rfl) (by kernel_rfl) fun X hb hp => by
  obtain ⟨a, b, d, _⟩ := X
  obtain ⟨N, h⟩ := h a b d hb.1 hp
  exact ⟨N, (f68m N a b d).trans (h N (Nat.le_refl N))⟩
theorem e68ok : EntryOk Try.prog 68 e68 := f68ok spec_l1At.ok
end Go.Fw
namespace Go.Fw
variable {ρ : Type}
open Go.Proofs
def f64sig : Sig := ⟨[⟨.pair (.int .i64) (.pair (.int .i64) (.sl 3 (.int .i64))), true, false⟩], [⟨.bool, false, false⟩]⟩
def e64 : Entry := ⟨f64sig, none, fun X => ((), ((spec_l1Sizes.g X.1), ()))⟩
def f64G : Gm := addG (addG emptyG 48 e48) 68 e68
theorem f64GOk : GOk Try.prog f64G := ((GOk.nil).add e48ok (by kernel_rfl)).add e68ok (by kernel_rfl)
def f64lE : Clean := ⟨[], [], [], [], []⟩
def f64s0 (a : MT) : St := initSt f64sig.ps (a, ())
def f64s1 (a b : Int) (c : LI) : St := stOf [(1, xb 1)] [(1, (47, [yi a, yi b, .sn 3 tI c none]))] []
def f64l1 : Clean := ⟨[1], [1], [], [], []⟩
def f64s2 (a b c : Int) (d : LI) : St := stOf [(1, xb 1), (3, xi a)] [(1, (47, [yi b, yi c, .sn 3 tI d none]))] []
def f64l2 : Clean := ⟨[1, 3], [1], [], [], []⟩
def f64s3 (a b c : Int) (d : LI) : St := stOf [(1, xb 1), (4, xi a)] [(1, (47, [yi b, yi c, .sn 3 tI d none]))] []
def f64l3 : Clean := ⟨[1, 4], [1], [], [], []⟩
def f64s4 (a b c d : Int) (e : LI) : St := stOf [(1, xb 1), (4, xi a), (5, xi b)] [(1, (47, [yi c, yi d, .sn 3 tI e none]))] []
def f64l4 : Clean := ⟨[1, 4, 5], [1], [], [], []⟩
def f64s5  : St := stOf [] [] []
def f64l5 : Clean := ⟨[], [], [], [], []⟩
def f64s6 (a : Bool) : St := stOf [(2, xB a)] [] []
def f64l6 : Clean := ⟨[2], [], [], [], []⟩
def f64B : Nat → Option Clean := lookL [(0, f64l1), (4, f64l3), (3, f64l3), (2, f64l5), (1000000, f64l6)]
abbrev f64i {ρ : Type} (N : Nat) (c : Code) (p : Plan) (σ : St) (K : KT ρ) : Option ρ := iCode f64G tab f64B N c p σ K
def f64c (n : Nat) : Code := codeN 99 (bodyOf Try.f64) n
theorem f64t1 N a (K : KT ρ) : f64i N (f64c 2) .n (f64s0 a) (joinK (some f64l1) K) =
 spec_l1Sizes.Z1 N a (fun b c d => K .nrm (f64s1 b c d)) := by kernel_rfl
theorem f64t3 N a b c (K : KT ρ) : f64i N (f64c 5) .n (f64s1 a b c) (joinK (some f64l1) K) =
 spec_l1Sizes.Z3 N a b c (fun a b c => K .nrm (f64s1 a b c)) (fun d => K .ret (f64s6 d)) := by kernel_rfl
theorem f64t6 N a b c (K : KT ρ) : f64i N (f64c 19) .n (f64s1 a b c) (joinK (some f64l2) K) =
 spec_l1Sizes.Z6 N a b c (fun d a b c => K .nrm (f64s2 d a b c)) := by kernel_rfl
theorem f64t9 N d a b c (K : KT ρ) : f64i N (f64c 75) .n (f64s2 d a b c) (joinK (some f64l2) K) =
 spec_l1Sizes.Z9 N d a b c (fun d a b c => K .nrm (f64s2 d a b c)) (fun a b c => K (.exit 0) (f64s1 a b c)) (fun e => K .ret (f64s6 e)) := by kernel_rfl
def f64p8 : Plan := .mk none (some f64l2) .n .n
abbrev f64w8 {ρ : Type} (N M : Nat) (σ : St) (K : KT ρ) : Option ρ := loopC (fun σ K => f64i N (f64c 75) .n σ K) f64l2 M σ K
theorem f64t8L {ρ : Type} (N : Nat) (K : KT ρ) : ∀ (M : Nat) (d a b : Int) (c : LI), f64w8 N M (f64s2 d a b c) K =
 spec_l1Sizes.Z8L N (fun a b c => K (.exit 0) (f64s1 a b c)) (fun e => K .ret (f64s6 e)) M d a b c
 | 0, _, _, _, _ => rfl
 | M + 1, d, a, b, c => viaRoundS (fun k => spec_l1Sizes.Z9 N d a b c k (fun a b c => K (.exit 0) (f64s1 a b c)) (fun e => K .ret (f64s6 e))) (f64t9 N (K := seqK (fun σ => f64w8 N M σ K) K) ..) (fx4 fun d a b c => f64t8L N K M d a b c) (by kernel_rfl)
theorem f64t8 N d a b c (K : KT ρ) : f64i N (f64c 43) f64p8 (f64s2 d a b c) (joinK (some f64l1) K) =
  spec_l1Sizes.Z8 N d a b c (fun a b c => K (.exit 0) (f64s1 a b c)) (fun e => K .ret (f64s6 e)) :=
 viaLoopS (by kernel_rfl) (f64t8L N (joinK (some f64l1) K) N d a b c) (by kernel_rfl)
def f64p7 : Plan := .mk (some f64l1) none f64p8 .n
theorem f64t7 N d a b c (K : KT ρ) : f64i N (f64c 27) f64p7 (f64s2 d a b c) (joinK (some f64l1) K) =
  spec_l1Sizes.Z7 N d a b c (fun a b c => K .nrm (f64s1 a b c)) (fun e => K .ret (f64s6 e)) :=
 viaBlockS (by kernel_rfl) (f64t8 N (K := blockK 0 (joinK (some f64l1) K)) ..) (by kernel_rfl)
def f64p5 : Plan := .mk (some f64l2) none .n f64p7
theorem f64t5 N a b c (K : KT ρ) : f64i N (f64c 11) f64p5 (f64s1 a b c) (joinK (some f64l1) K) =
  spec_l1Sizes.Z5 N a b c (fun a b c => K .nrm (f64s1 a b c)) (fun d => K .ret (f64s6 d)) :=
 viaSeqS (fun k => spec_l1Sizes.Z6 N a b c k) (by kernel_rfl) (f64t6 N (K := seqK (fun σ => f64i N (f64c 27) f64p7 σ (joinK (some f64l1) K)) (joinK (some f64l1) K)) ..) (fx4 fun e a b c => f64t7 N e a b c K) (by kernel_rfl)
theorem f64t12 N a b c (K : KT ρ) : f64i N (f64c 39) .n (f64s1 a b c) (joinK (some f64l3) K) =
 spec_l1Sizes.Z12 N a b c (fun d a b c => K .nrm (f64s3 d a b c)) := by kernel_rfl
theorem f64t16 N a b c d (K : KT ρ) : f64i N (f64c 279) .n (f64s3 a b c d) (joinK (some f64l3) K) =
 spec_l1Sizes.Z16 N a b c d (fun a b c d => K .nrm (f64s3 a b c d)) (K (.exit 2) f64s5) := by kernel_rfl
theorem f64t20 N a b c d (K : KT ρ) : f64i N (f64c 2199) .n (f64s3 a b c d) (joinK (some f64l4) K) =
 spec_l1Sizes.Z20 N a b c d (fun a e b c d => K .nrm (f64s4 a e b c d)) := by kernel_rfl
theorem f64t23 N a e b c d (K : KT ρ) : f64i N (f64c 9367) .n (f64s4 a e b c d) (joinK (some f64l4) K) =
 spec_l1Sizes.Z23 N a e b c d (fun a e b c d => K .nrm (f64s4 a e b c d)) (fun a b c d => K (.exit 4) (f64s3 a b c d)) (fun f => K .ret (f64s6 f)) := by kernel_rfl
def f64p22 : Plan := .mk none (some f64l4) .n .n
abbrev f64w22 {ρ : Type} (N M : Nat) (σ : St) (K : KT ρ) : Option ρ := loopC (fun σ K => f64i N (f64c 9367) .n σ K) f64l4 M σ K
theorem f64t22L {ρ : Type} (N : Nat) (K : KT ρ) : ∀ (M : Nat) (a e b c : Int) (d : LI), f64w22 N M (f64s4 a e b c d) K =
 spec_l1Sizes.Z22L N (fun a b c d => K (.exit 4) (f64s3 a b c d)) (fun f => K .ret (f64s6 f)) M a e b c d
 | 0, _, _, _, _, _ => rfl
 | M + 1, a, e, b, c, d => viaRoundS (fun k => spec_l1Sizes.Z23 N a e b c d k (fun a b c d => K (.exit 4) (f64s3 a b c d)) (fun f => K .ret (f64s6 f))) (f64t23 N (K := seqK (fun σ => f64w22 N M σ K) K) ..) (fx5 fun a e b c d => f64t22L N K M a e b c d) (by kernel_rfl)
theorem f64t22 N a e b c d (K : KT ρ) : f64i N (f64c 5271) f64p22 (f64s4 a e b c d) (joinK (some f64l3) K) =
  spec_l1Sizes.Z22 N a e b c d (fun a b c d => K (.exit 4) (f64s3 a b c d)) (fun f => K .ret (f64s6 f)) :=
 viaLoopS (by kernel_rfl) (f64t22L N (joinK (some f64l3) K) N a e b c d) (by kernel_rfl)
def f64p21 : Plan := .mk (some f64l3) none f64p22 .n
theorem f64t21 N a e b c d (K : KT ρ) : f64i N (f64c 3223) f64p21 (f64s4 a e b c d) (joinK (some f64l3) K) =
  spec_l1Sizes.Z21 N a e b c d (fun a b c d => K .nrm (f64s3 a b c d)) (fun f => K .ret (f64s6 f)) :=
 viaBlockS (by kernel_rfl) (f64t22 N (K := blockK 4 (joinK (some f64l3) K)) ..) (by kernel_rfl)
def f64p19 : Plan := .mk (some f64l4) none .n f64p21
theorem f64t19 N a b c d (K : KT ρ) : f64i N (f64c 1175) f64p19 (f64s3 a b c d) (joinK (some f64l3) K) =
  spec_l1Sizes.Z19 N a b c d (fun a b c d => K .nrm (f64s3 a b c d)) (fun e => K .ret (f64s6 e)) :=
 viaSeqS (fun k => spec_l1Sizes.Z20 N a b c d k) (by kernel_rfl) (f64t20 N (K := seqK (fun σ => f64i N (f64c 3223) f64p21 σ (joinK (some f64l3) K)) (joinK (some f64l3) K)) ..) (fx5 fun a f b c d => f64t21 N a f b c d K) (by kernel_rfl)
def f64p18 : Plan := .mk (some f64l3) none f64p19 .n
theorem f64t18 N a b c d (K : KT ρ) : f64i N (f64c 663) f64p18 (f64s3 a b c d) (joinK (some f64l3) K) =
  spec_l1Sizes.Z18 N a b c d (fun a b c d => K .nrm (f64s3 a b c d)) (fun e => K .ret (f64s6 e)) :=
 viaBlockS (by kernel_rfl) (f64t19 N (K := blockK 3 (joinK (some f64l3) K)) ..) (by kernel_rfl)
theorem f64t24 N a b c d (K : KT ρ) : f64i N (f64c 919) .n (f64s3 a b c d) (joinK (some f64l3) K) =
 spec_l1Sizes.Z24 N a b c d (fun a b c d => K .nrm (f64s3 a b c d)) := by kernel_rfl
def f64p17 : Plan := .mk (some f64l3) none f64p18 .n
theorem f64t17 N a b c d (K : KT ρ) : f64i N (f64c 407) f64p17 (f64s3 a b c d) (joinK (some f64l3) K) =
  spec_l1Sizes.Z17 N a b c d (fun a b c d => K .nrm (f64s3 a b c d)) (fun e => K .ret (f64s6 e)) :=
 viaSeqS (fun k => spec_l1Sizes.Z18 N a b c d k (fun e => K .ret (f64s6 e))) (by kernel_rfl) (f64t18 N (K := seqK (fun σ => f64i N (f64c 919) .n σ (joinK (some f64l3) K)) (joinK (some f64l3) K)) ..) (fx4 fun a b c d => f64t24 N a b c d K) (by kernel_rfl)
def f64p15 : Plan := .mk (some f64l3) none .n f64p17
theorem f64t15 N a b c d (K : KT ρ) : f64i N (f64c 151) f64p15 (f64s3 a b c d) (joinK (some f64l3) K) =
  spec_l1Sizes.Z15 N a b c d (fun a b c d => K .nrm (f64s3 a b c d)) (K (.exit 2) f64s5) (fun e => K .ret (f64s6 e)) :=
 viaSeqS (fun k => spec_l1Sizes.Z16 N a b c d k (K (.exit 2) f64s5)) (by kernel_rfl) (f64t16 N (K := seqK (fun σ => f64i N (f64c 407) f64p17 σ (joinK (some f64l3) K)) (joinK (some f64l3) K)) ..) (fx4 fun a b c d => f64t17 N a b c d K) (by kernel_rfl)
def f64p14 : Plan := .mk none (some f64l3) f64p15 .n
abbrev f64w14 {ρ : Type} (N M : Nat) (σ : St) (K : KT ρ) : Option ρ := loopC (fun σ K => f64i N (f64c 151) f64p15 σ K) f64l3 M σ K
theorem f64t14L {ρ : Type} (N : Nat) (K : KT ρ) : ∀ (M : Nat) (a b c : Int) (d : LI), f64w14 N M (f64s3 a b c d) K =
 spec_l1Sizes.Z14L N (K (.exit 2) f64s5) (fun e => K .ret (f64s6 e)) M a b c d
 | 0, _, _, _, _ => rfl
 | M + 1, a, b, c, d => viaRoundS (fun k => spec_l1Sizes.Z15 N a b c d k (K (.exit 2) f64s5) (fun e => K .ret (f64s6 e))) (f64t15 N (K := seqK (fun σ => f64w14 N M σ K) K) ..) (fx4 fun a b c d => f64t14L N K M a b c d) (by kernel_rfl)
theorem f64t14 N a b c d (K : KT ρ) : f64i N (f64c 87) f64p14 (f64s3 a b c d) (joinK (some f64l5) K) =
  spec_l1Sizes.Z14 N a b c d (K (.exit 2) f64s5) (fun e => K .ret (f64s6 e)) :=
 viaLoopS (by kernel_rfl) (f64t14L N (joinK (some f64l5) K) N a b c d) (by kernel_rfl)
def f64p13 : Plan := .mk (some f64l5) none f64p14 .n
theorem f64t13 N a b c d (K : KT ρ) : f64i N (f64c 55) f64p13 (f64s3 a b c d) (joinK (some f64l5) K) =
  spec_l1Sizes.Z13 N a b c d (K .nrm f64s5) (fun e => K .ret (f64s6 e)) :=
 viaBlockS (by kernel_rfl) (f64t14 N (K := blockK 2 (joinK (some f64l5) K)) ..) (by kernel_rfl)
def f64p11 : Plan := .mk (some f64l3) none .n f64p13
theorem f64t11 N a b c (K : KT ρ) : f64i N (f64c 23) f64p11 (f64s1 a b c) (joinK (some f64l5) K) =
  spec_l1Sizes.Z11 N a b c (K .nrm f64s5) (fun d => K .ret (f64s6 d)) :=
 viaSeqS (fun k => spec_l1Sizes.Z12 N a b c k) (by kernel_rfl) (f64t12 N (K := seqK (fun σ => f64i N (f64c 55) f64p13 σ (joinK (some f64l5) K)) (joinK (some f64l5) K)) ..) (fx4 fun e a b c => f64t13 N e a b c K) (by kernel_rfl)
theorem f64t25 N  (K : KT ρ) : f64i N (f64c 31) .n f64s5 (joinK (some f64lE) K) =
 spec_l1Sizes.Z25 N (fun a => K .ret (f64s6 a)) := by kernel_rfl
def f64p10 : Plan := .mk (some f64l5) none f64p11 .n
theorem f64t10 N a b c (K : KT ρ) : f64i N (f64c 15) f64p10 (f64s1 a b c) (joinK (some f64lE) K) =
  spec_l1Sizes.Z10 N a b c (fun d => K .ret (f64s6 d)) :=
 viaSeqS (fun k => spec_l1Sizes.Z11 N a b c k (fun d => K .ret (f64s6 d))) (by kernel_rfl) (f64t11 N (K := seqK (fun σ => f64i N (f64c 31) .n σ (joinK (some f64lE) K)) (joinK (some f64lE) K)) ..) (f64t25 N K) (by kernel_rfl)
def f64p4 : Plan := .mk (some f64l1) none f64p5 f64p10
theorem f64t4 N a b c (K : KT ρ) : f64i N (f64c 7) f64p4 (f64s1 a b c) (joinK (some f64lE) K) =
  spec_l1Sizes.Z4 N a b c (fun d => K .ret (f64s6 d)) :=
 viaSeqS (fun k => spec_l1Sizes.Z5 N a b c k (fun d => K .ret (f64s6 d))) (by kernel_rfl) (f64t5 N (K := seqK (fun σ => f64i N (f64c 15) f64p10 σ (joinK (some f64lE) K)) (joinK (some f64lE) K)) ..) (fx3 fun a b c => f64t10 N a b c K) (by kernel_rfl)
def f64p2 : Plan := .mk (some f64l1) none .n f64p4
theorem f64t2 N a b c (K : KT ρ) : f64i N (f64c 3) f64p2 (f64s1 a b c) (joinK (some f64lE) K) =
  spec_l1Sizes.Z2 N a b c (fun d => K .ret (f64s6 d)) :=
 viaSeqS (fun k => spec_l1Sizes.Z3 N a b c k (fun d => K .ret (f64s6 d))) (by kernel_rfl) (f64t3 N (K := seqK (fun σ => f64i N (f64c 7) f64p4 σ (joinK (some f64lE) K)) (joinK (some f64lE) K)) ..) (fx3 fun a b c => f64t4 N a b c K) (by kernel_rfl)
def f64p0 : Plan := .mk (some f64l1) none .n f64p2
theorem f64t0 N a (K : KT ρ) : f64i N (f64c 1) f64p0 (f64s0 a) (joinK (some f64lE) K) =
  spec_l1Sizes.Z0 N a (fun b => K .ret (f64s6 b)) :=
 viaSeqS (fun k => spec_l1Sizes.Z1 N a k) (by kernel_rfl) (f64t1 N (K := seqK (fun σ => f64i N (f64c 3) f64p2 σ (joinK (some f64lE) K)) (joinK (some f64lE) K)) ..) (fx3 fun c d e => f64t2 N c d e K) (by kernel_rfl)
theorem f64m (N : Nat) (a : MT) : f64i N (f64c 1) f64p0 (f64s0 a) (joinK (some f64lE) (finK tab f64sig Try.f64.results.toList)) = spec_l1Sizes.Z0 N a (fun b => some ((), (b, ()))) :=
 (f64t0 N a (finK tab f64sig Try.f64.results.toList)).trans (by kernel_rfl)
theorem f64ok (h : spec_l1Sizes.Spec) : EntryOk Try.prog 64 e64 :=
 entry_of_code (sig := f64sig) (c := (f64c 1)) (pl := f64p0) (je := (some f64lE)) (B := f64B) Try.func64 (by kernel_rfl) (by kernel_rfl) (by kernel_rfl) tabOk f64GOk (by kernel_rfl) (by kernel_rfl) (by kernel_rfl) (by kernel_rfl) fun X hb hp => by
  obtain ⟨a, _⟩ := X
  obtain ⟨N, h⟩ := h a hb.1
  exact ⟨N, (f64m N a).trans (h N (Nat.le_refl N))⟩
theorem e64ok : EntryOk Try.prog 64 e64 := f64ok spec_l1Sizes.ok
end Go.Fw
namespace Go.Fw
variable {ρ : Type}
open Go.Proofs
def f92sig : Sig := ⟨[⟨.sl 3 (.int .i64), false, false⟩, ⟨.int .i64, false, false⟩], [⟨.bool, false, false⟩]⟩
def e92 : Entry := ⟨f92sig, none, fun X => ((), ((spec_l1Has.g X.1 X.2.1), ()))⟩
def f92G : Gm := emptyG
theorem f92GOk : GOk Try.prog f92G := GOk.nil
def f92lE : Clean := ⟨[], [], [], [], []⟩
def f92s0 (a : LI) (b : Int) : St := initSt f92sig.ps (a, (b, ()))
def f92s1 (a : LI) (b : Int) : St := stOf [(0, .c (.sn 3 tI a none)), (1, xi b)] [] []
def f92l1 : Clean := ⟨[0, 1], [], [], [], []⟩
def f92s2 (a : LI) (b d : Int) : St := stOf [(0, .c (.sn 3 tI a none)), (1, xi b), (5, xi d)] [] []
def f92l2 : Clean := ⟨[0, 1, 5], [], [], [], []⟩
def f92s3  : St := stOf [] [] []
def f92l3 : Clean := ⟨[], [], [], [], []⟩
def f92s4 (a : Bool) : St := stOf [(4, xB a)] [] []
def f92l4 : Clean := ⟨[4], [], [], [], []⟩
def f92B : Nat → Option Clean := lookL [(0, f92l3), (1000000, f92l4)]
abbrev f92i {ρ : Type} (N : Nat) (c : Code) (p : Plan) (σ : St) (K : KT ρ) : Option ρ := iCode f92G tab f92B N c p σ K
def f92c (n : Nat) : Code := codeN 99 (bodyOf Try.f92) n
theorem f92t1 N a b (K : KT ρ) : f92i N (f92c 2) .n (f92s0 a b) (joinK (some f92l1) K) =
 spec_l1Has.Z1 N a b (fun a b => K .nrm (f92s1 a b)) := by kernel_rfl
theorem f92t4 N a b (K : KT ρ) : f92i N (f92c 9) .n (f92s1 a b) (joinK (some f92l2) K) =
 spec_l1Has.Z4 N a b (fun a b c => K .nrm (f92s2 a b c)) := by kernel_rfl
theorem f92t7 N a b c (K : KT ρ) : f92i N (f92c 37) .n (f92s2 a b c) (joinK (some f92l2) K) =
 spec_l1Has.Z7 N a b c (fun a b c => K .nrm (f92s2 a b c)) (K (.exit 0) f92s3) (fun d => K .ret (f92s4 d)) := by kernel_rfl
def f92p6 : Plan := .mk none (some f92l2) .n .n
abbrev f92w6 {ρ : Type} (N M : Nat) (σ : St) (K : KT ρ) : Option ρ := loopC (fun σ K => f92i N (f92c 37) .n σ K) f92l2 M σ K
theorem f92t6L {ρ : Type} (N : Nat) (K : KT ρ) : ∀ (M : Nat) (a : LI) (b c : Int), f92w6 N M (f92s2 a b c) K =
 spec_l1Has.Z6L N (K (.exit 0) f92s3) (fun d => K .ret (f92s4 d)) M a b c
 | 0, _, _, _ => rfl
 | M + 1, a, b, c => viaRoundS (fun k => spec_l1Has.Z7 N a b c k (K (.exit 0) f92s3) (fun d => K .ret (f92s4 d))) (f92t7 N (K := seqK (fun σ => f92w6 N M σ K) K) ..) (fx3 fun a b c => f92t6L N K M a b c) (by kernel_rfl)
theorem f92t6 N a b c (K : KT ρ) : f92i N (f92c 21) f92p6 (f92s2 a b c) (joinK (some f92l3) K) =
  spec_l1Has.Z6 N a b c (K (.exit 0) f92s3) (fun d => K .ret (f92s4 d)) :=
 viaLoopS (by kernel_rfl) (f92t6L N (joinK (some f92l3) K) N a b c) (by kernel_rfl)
def f92p5 : Plan := .mk (some f92l3) none f92p6 .n
theorem f92t5 N a b c (K : KT ρ) : f92i N (f92c 13) f92p5 (f92s2 a b c) (joinK (some f92l3) K) =
  spec_l1Has.Z5 N a b c (K .nrm f92s3) (fun d => K .ret (f92s4 d)) :=
 viaBlockS (by kernel_rfl) (f92t6 N (K := blockK 0 (joinK (some f92l3) K)) ..) (by kernel_rfl)
def f92p3 : Plan := .mk (some f92l2) none .n f92p5
theorem f92t3 N a b (K : KT ρ) : f92i N (f92c 5) f92p3 (f92s1 a b) (joinK (some f92l3) K) =
  spec_l1Has.Z3 N a b (K .nrm f92s3) (fun c => K .ret (f92s4 c)) :=
 viaSeqS (fun k => spec_l1Has.Z4 N a b k) (by kernel_rfl) (f92t4 N (K := seqK (fun σ => f92i N (f92c 13) f92p5 σ (joinK (some f92l3) K)) (joinK (some f92l3) K)) ..) (fx3 fun a b d => f92t5 N a b d K) (by kernel_rfl)
theorem f92t8 N  (K : KT ρ) : f92i N (f92c 7) .n f92s3 (joinK (some f92lE) K) =
 spec_l1Has.Z8 N (fun a => K .ret (f92s4 a)) := by kernel_rfl
def f92p2 : Plan := .mk (some f92l3) none f92p3 .n
theorem f92t2 N a b (K : KT ρ) : f92i N (f92c 3) f92p2 (f92s1 a b) (joinK (some f92lE) K) =
  spec_l1Has.Z2 N a b (fun c => K .ret (f92s4 c)) :=
 viaSeqS (fun k => spec_l1Has.Z3 N a b k (fun c => K .ret (f92s4 c))) (by kernel_rfl) (f92t3 N (K := seqK (fun σ => f92i N (f92c 7) .n σ (joinK (some f92lE) K)) (joinK (some f92lE) K)) ..) (f92t8 N K) (by kernel_rfl)
def f92p0 : Plan := .mk (some f92l1) none .n f92p2
theorem f92t0 N a b (K : KT ρ) : f92i N (f92c 1) f92p0 (f92s0 a b) (joinK (some f92lE) K) =
  spec_l1Has.Z0 N a b (fun c => K .ret (f92s4 c)) :=
 viaSeqS (fun k => spec_l1Has.Z1 N a b k) (by kernel_rfl) (f92t1 N (K := seqK (fun σ => f92i N (f92c 3) f92p2 σ (joinK (some f92lE) K)) (joinK (some f92lE) K)) ..) (fx2 fun a b => f92t2 N a b K) (by kernel_rfl)
theorem f92m (N : Nat) (a : LI) (b : Int) : f92i N (f92c 1) f92p0 (f92s0 a b) (joinK (some f92lE) (finK tab f92sig Try.f92.results.toList)) = spec_l1Has.Z0 N a b (fun c => some ((), (c, ()))) :=
 (f92t0 N a b (finK tab f92sig Try.f92.results.toList)).trans (by kernel_rfl)
theorem f92ok (h : spec_l1Has.Spec) : EntryOk Try.prog 92 e92 :=
 entry_of_code (sig := f92sig) (c := (f92c 1)) (pl := f92p0) (je := (some f92lE)) (B := f92B) Try.func92 (by kernel_rfl) (by kernel_rfl) (by kernel_rfl) tabOk f92GOk (by kernel_rfl) (by kernel_rfl) (by kernel_rfl) (by kernel_rfl) fun X hb hp => by
  obtain ⟨a, b, _⟩ := X
  obtain ⟨N, h⟩ := h a b hb.1
  exact ⟨N, (f92m N a b).trans (h N (Nat.le_refl N))⟩
theorem e92ok : EntryOk Try.prog 92 e92 := f92ok spec_l1Has.ok
end Go.Fw
namespace Go.Fw
variable {ρ : Type}
open Go.Proofs
def f85sig : Sig := ⟨[⟨.pair (.int .i64) (.pair (.int .i64) (.sl 3 (.int .i64))), true, false⟩, ⟨.int .i64, false, false⟩], [⟨.sl 3 (.int .i64), false, false⟩, ⟨.sl 3 (.int .i64), false, false⟩]⟩
def e85 : Entry := ⟨f85sig, (some fun X => spec_l1Piece.P X.1 X.2.1), fun X => ((), ((spec_l1Piece.g X.1 X.2.1).1, ((spec_l1Piece.g X.1 X.2.1).2, ())))⟩
def f85G : Gm := addG (addG emptyG 68 e68) 92 e92
theorem f85GOk : GOk Try.prog f85G := ((GOk.nil).add e68ok (by kernel_rfl)).add e92ok (by kernel_rfl)
def f85lE : Clean := ⟨[], [], [], [], []⟩
def f85s0 (a : MT) (b : Int) : St := initSt f85sig.ps (a, (b, ()))
def f85s1 (a b c : Int) (d : LI) : St := stOf [(1, xi a), (2, xb 2)] [(2, (47, [yi b, yi c, .sn 3 tI d none]))] []
def f85l1 : Clean := ⟨[1, 2], [2], [], [], []⟩
def f85s2 (a : LI) (b c d : Int) (e : LI) : St := stOf [(1, xi b), (2, xb 2), (6, xo 1000384)] [(2, (47, [yi c, yi d, .sn 3 tI e none]))] [(1000384, (⟨3, .int .i64, a, true, false⟩ : Row))]
def f85l2 : Clean := ⟨[1, 2, 6], [2], [], [], [(⟨false, 6, 0⟩, 1000384)]⟩
def f85s3 (a b : LI) (c d : Int) (e : LI) : St := stOf [(2, xb 2), (6, xo 1000384), (7, xo 1000448)] [(2, (47, [yi c, yi d, .sn 3 tI e none]))] [(1000384, (⟨3, .int .i64, a, true, false⟩ : Row)), (1000448, (⟨3, .int .i64, b, true, false⟩ : Row))]
def f85l3 : Clean := ⟨[2, 6, 7], [2], [], [], [(⟨false, 6, 0⟩, 1000384), (⟨false, 7, 0⟩, 1000448)]⟩
def f85s4 (a b : LI) (c d e : Int) (f : LI) : St := stOf [(2, xb 2), (6, xo 1000384), (7, xo 1000448), (8, xi c)] [(2, (47, [yi d, yi e, .sn 3 tI f none]))] [(1000384, (⟨3, .int .i64, a, true, false⟩ : Row)), (1000448, (⟨3, .int .i64, b, true, false⟩ : Row))]
def f85l4 : Clean := ⟨[2, 6, 7, 8], [2], [], [], [(⟨false, 6, 0⟩, 1000384), (⟨false, 7, 0⟩, 1000448)]⟩
def f85s5 (a b : LI) (c d e f : Int) (g : LI) : St := stOf [(2, xb 2), (6, xo 1000384), (7, xo 1000448), (8, xi c), (9, xi d)] [(2, (47, [yi e, yi f, .sn 3 tI g none]))] [(1000384, (⟨3, .int .i64, a, true, false⟩ : Row)), (1000448, (⟨3, .int .i64, b, true, false⟩ : Row))]
def f85l5 : Clean := ⟨[2, 6, 7, 8, 9], [2], [], [], [(⟨false, 6, 0⟩, 1000384), (⟨false, 7, 0⟩, 1000448)]⟩
def f85s6 (a b : LI) : St := stOf [(6, xo 1000384), (7, xo 1000448)] [] [(1000384, (⟨3, .int .i64, a, true, false⟩ : Row)), (1000448, (⟨3, .int .i64, b, true, false⟩ : Row))]
def f85l6 : Clean := ⟨[6, 7], [], [], [], [(⟨false, 6, 0⟩, 1000384), (⟨false, 7, 0⟩, 1000448)]⟩
def f85s7 (a b : LI) : St := stOf [(4, xo 1000256), (5, xo 1000320)] [] [(1000256, (⟨3, .int .i64, a, true, false⟩ : Row)), (1000320, (⟨3, .int .i64, b, true, false⟩ : Row))]
def f85l7 : Clean := ⟨[4, 5], [], [], [], [(⟨false, 4, 0⟩, 1000256), (⟨false, 5, 0⟩, 1000320)]⟩
def f85B : Nat → Option Clean := lookL [(2, f85l4), (1, f85l4), (0, f85l6), (1000000, f85l7)]
abbrev f85i {ρ : Type} (N : Nat) (c : Code) (p : Plan) (σ : St) (K : KT ρ) : Option ρ := iCode f85G tab f85B N c p σ K
def f85c (n : Nat) : Code := codeN 99 (bodyOf Try.f85) n
theorem f85t1 N b a (K : KT ρ) : f85i N (f85c 2) .n (f85s0 b a) (joinK (some f85l1) K) =
 spec_l1Piece.Z1 N b a (fun a c d e => K .nrm (f85s1 a c d e)) := by kernel_rfl
theorem f85t3 N a b c d (K : KT ρ) : f85i N (f85c 5) .n (f85s1 a b c d) (joinK (some f85l2) K) =
 spec_l1Piece.Z3 N a b c d (fun e a b c d => K .nrm (f85s2 e a b c d)) := by kernel_rfl
theorem f85t5 N a e b c d (K : KT ρ) : f85i N (f85c 11) .n (f85s2 a e b c d) (joinK (some f85l3) K) =
 spec_l1Piece.Z5 N a e b c d (fun a f b c d => K .nrm (f85s3 a f b c d)) := by kernel_rfl
theorem f85t8 N a b c d e (K : KT ρ) : f85i N (f85c 39) .n (f85s3 a b c d e) (joinK (some f85l4) K) =
 spec_l1Piece.Z8 N a b c d e (fun a b f c d e => K .nrm (f85s4 a b f c d e)) := by kernel_rfl
theorem f85t12 N a b c d e f (K : KT ρ) : f85i N (f85c 279) .n (f85s4 a b c d e f) (joinK (some f85l4) K) =
 spec_l1Piece.Z12 N a b c d e f (fun a b c d e f => K .nrm (f85s4 a b c d e f)) (fun a b => K (.exit 0) (f85s6 a b)) := by kernel_rfl
theorem f85t16 N a b c d e f (K : KT ρ) : f85i N (f85c 2199) .n (f85s4 a b c d e f) (joinK (some f85l5) K) =
 spec_l1Piece.Z16 N a b c d e f (fun a b c g d e f => K .nrm (f85s5 a b c g d e f)) := by kernel_rfl
theorem f85t19 N a b c g d e f (K : KT ρ) : f85i N (f85c 9367) .n (f85s5 a b c g d e f) (joinK (some f85l5) K) =
 spec_l1Piece.Z19 N a b c g d e f (fun a b c g d e f => K .nrm (f85s5 a b c g d e f)) (fun a b c d e f => K (.exit 2) (f85s4 a b c d e f)) := by kernel_rfl
def f85p18 : Plan := .mk none (some f85l5) .n .n
abbrev f85w18 {ρ : Type} (N M : Nat) (σ : St) (K : KT ρ) : Option ρ := loopC (fun σ K => f85i N (f85c 9367) .n σ K) f85l5 M σ K
theorem f85t18L {ρ : Type} (N : Nat) (K : KT ρ) : ∀ (M : Nat) (a b : LI) (c g d e : Int) (f : LI), f85w18 N M (f85s5 a b c g d e f) K =
 spec_l1Piece.Z18L N (fun a b c d e f => K (.exit 2) (f85s4 a b c d e f)) M a b c g d e f
 | 0, _, _, _, _, _, _, _ => rfl
 | M + 1, a, b, c, g, d, e, f => viaRoundS (fun k => spec_l1Piece.Z19 N a b c g d e f k (fun a b c d e f => K (.exit 2) (f85s4 a b c d e f))) (f85t19 N (K := seqK (fun σ => f85w18 N M σ K) K) ..) (fx7 fun a b c g d e f => f85t18L N K M a b c g d e f) (by kernel_rfl)
theorem f85t18 N a b c g d e f (K : KT ρ) : f85i N (f85c 5271) f85p18 (f85s5 a b c g d e f) (joinK (some f85l4) K) =
  spec_l1Piece.Z18 N a b c g d e f (fun a b c d e f => K (.exit 2) (f85s4 a b c d e f)) :=
 viaLoopS (by kernel_rfl) (f85t18L N (joinK (some f85l4) K) N a b c g d e f) (by kernel_rfl)
def f85p17 : Plan := .mk (some f85l4) none f85p18 .n
theorem f85t17 N a b c g d e f (K : KT ρ) : f85i N (f85c 3223) f85p17 (f85s5 a b c g d e f) (joinK (some f85l4) K) =
  spec_l1Piece.Z17 N a b c g d e f (fun a b c d e f => K .nrm (f85s4 a b c d e f)) :=
 viaBlockS (by kernel_rfl) (f85t18 N (K := blockK 2 (joinK (some f85l4) K)) ..) (by kernel_rfl)
def f85p15 : Plan := .mk (some f85l5) none .n f85p17
theorem f85t15 N a b c d e f (K : KT ρ) : f85i N (f85c 1175) f85p15 (f85s4 a b c d e f) (joinK (some f85l4) K) =
  spec_l1Piece.Z15 N a b c d e f (fun a b c d e f => K .nrm (f85s4 a b c d e f)) :=
 viaSeqS (fun k => spec_l1Piece.Z16 N a b c d e f k) (by kernel_rfl) (f85t16 N (K := seqK (fun σ => f85i N (f85c 3223) f85p17 σ (joinK (some f85l4) K)) (joinK (some f85l4) K)) ..) (fx7 fun a b c g d e f => f85t17 N a b c g d e f K) (by kernel_rfl)
def f85p14 : Plan := .mk (some f85l4) none f85p15 .n
theorem f85t14 N a b c d e f (K : KT ρ) : f85i N (f85c 663) f85p14 (f85s4 a b c d e f) (joinK (some f85l4) K) =
  spec_l1Piece.Z14 N a b c d e f (fun a b c d e f => K .nrm (f85s4 a b c d e f)) :=
 viaBlockS (by kernel_rfl) (f85t15 N (K := blockK 1 (joinK (some f85l4) K)) ..) (by kernel_rfl)
theorem f85t20 N a b c d e f (K : KT ρ) : f85i N (f85c 919) .n (f85s4 a b c d e f) (joinK (some f85l4) K) =
 spec_l1Piece.Z20 N a b c d e f (fun a b c d e f => K .nrm (f85s4 a b c d e f)) := by kernel_rfl
def f85p13 : Plan := .mk (some f85l4) none f85p14 .n
theorem f85t13 N a b c d e f (K : KT ρ) : f85i N (f85c 407) f85p13 (f85s4 a b c d e f) (joinK (some f85l4) K) =
  spec_l1Piece.Z13 N a b c d e f (fun a b c d e f => K .nrm (f85s4 a b c d e f)) :=
 viaSeqS (fun k => spec_l1Piece.Z14 N a b c d e f k) (by kernel_rfl) (f85t14 N (K := seqK (fun σ => f85i N (f85c 919) .n σ (joinK (some f85l4) K)) (joinK (some f85l4) K)) ..) (fx6 fun a b c d e f => f85t20 N a b c d e f K) (by kernel_rfl)
def f85p11 : Plan := .mk (some f85l4) none .n f85p13
theorem f85t11 N a b c d e f (K : KT ρ) : f85i N (f85c 151) f85p11 (f85s4 a b c d e f) (joinK (some f85l4) K) =
  spec_l1Piece.Z11 N a b c d e f (fun a b c d e f => K .nrm (f85s4 a b c d e f)) (fun a b => K (.exit 0) (f85s6 a b)) :=
 viaSeqS (fun k => spec_l1Piece.Z12 N a b c d e f k (fun a b => K (.exit 0) (f85s6 a b))) (by kernel_rfl) (f85t12 N (K := seqK (fun σ => f85i N (f85c 407) f85p13 σ (joinK (some f85l4) K)) (joinK (some f85l4) K)) ..) (fx6 fun a b c d e f => f85t13 N a b c d e f K) (by kernel_rfl)
def f85p10 : Plan := .mk none (some f85l4) f85p11 .n
abbrev f85w10 {ρ : Type} (N M : Nat) (σ : St) (K : KT ρ) : Option ρ := loopC (fun σ K => f85i N (f85c 151) f85p11 σ K) f85l4 M σ K
theorem f85t10L {ρ : Type} (N : Nat) (K : KT ρ) : ∀ (M : Nat) (a b : LI) (c d e : Int) (f : LI), f85w10 N M (f85s4 a b c d e f) K =
 spec_l1Piece.Z10L N (fun a b => K (.exit 0) (f85s6 a b)) M a b c d e f
 | 0, _, _, _, _, _, _ => rfl
 | M + 1, a, b, c, d, e, f => viaRoundS (fun k => spec_l1Piece.Z11 N a b c d e f k (fun a b => K (.exit 0) (f85s6 a b))) (f85t11 N (K := seqK (fun σ => f85w10 N M σ K) K) ..) (fx6 fun a b c d e f => f85t10L N K M a b c d e f) (by kernel_rfl)
theorem f85t10 N a b c d e f (K : KT ρ) : f85i N (f85c 87) f85p10 (f85s4 a b c d e f) (joinK (some f85l6) K) =
  spec_l1Piece.Z10 N a b c d e f (fun a b => K (.exit 0) (f85s6 a b)) :=
 viaLoopS (by kernel_rfl) (f85t10L N (joinK (some f85l6) K) N a b c d e f) (by kernel_rfl)
def f85p9 : Plan := .mk (some f85l6) none f85p10 .n
theorem f85t9 N a b c d e f (K : KT ρ) : f85i N (f85c 55) f85p9 (f85s4 a b c d e f) (joinK (some f85l6) K) =
  spec_l1Piece.Z9 N a b c d e f (fun a b => K .nrm (f85s6 a b)) :=
 viaBlockS (by kernel_rfl) (f85t10 N (K := blockK 0 (joinK (some f85l6) K)) ..) (by kernel_rfl)
def f85p7 : Plan := .mk (some f85l4) none .n f85p9
theorem f85t7 N a b c d e (K : KT ρ) : f85i N (f85c 23) f85p7 (f85s3 a b c d e) (joinK (some f85l6) K) =
  spec_l1Piece.Z7 N a b c d e (fun a b => K .nrm (f85s6 a b)) :=
 viaSeqS (fun k => spec_l1Piece.Z8 N a b c d e k) (by kernel_rfl) (f85t8 N (K := seqK (fun σ => f85i N (f85c 55) f85p9 σ (joinK (some f85l6) K)) (joinK (some f85l6) K)) ..) (fx6 fun a b f c d e => f85t9 N a b f c d e K) (by kernel_rfl)
theorem f85t21 N a b (K : KT ρ) : f85i N (f85c 31) .n (f85s6 a b) (joinK (some f85lE) K) =
 spec_l1Piece.Z21 N a b (fun c d => K .ret (f85s7 c d)) := by kernel_rfl
def f85p6 : Plan := .mk (some f85l6) none f85p7 .n
theorem f85t6 N a b c d e (K : KT ρ) : f85i N (f85c 15) f85p6 (f85s3 a b c d e) (joinK (some f85lE) K) =
  spec_l1Piece.Z6 N a b c d e (fun f g => K .ret (f85s7 f g)) :=
 viaSeqS (fun k => spec_l1Piece.Z7 N a b c d e k) (by kernel_rfl) (f85t7 N (K := seqK (fun σ => f85i N (f85c 31) .n σ (joinK (some f85lE) K)) (joinK (some f85lE) K)) ..) (fx2 fun a b => f85t21 N a b K) (by kernel_rfl)
def f85p4 : Plan := .mk (some f85l3) none .n f85p6
theorem f85t4 N a e b c d (K : KT ρ) : f85i N (f85c 7) f85p4 (f85s2 a e b c d) (joinK (some f85lE) K) =
  spec_l1Piece.Z4 N a e b c d (fun f g => K .ret (f85s7 f g)) :=
 viaSeqS (fun k => spec_l1Piece.Z5 N a e b c d k) (by kernel_rfl) (f85t5 N (K := seqK (fun σ => f85i N (f85c 15) f85p6 σ (joinK (some f85lE) K)) (joinK (some f85lE) K)) ..) (fx5 fun a h b c d => f85t6 N a h b c d K) (by kernel_rfl)
def f85p2 : Plan := .mk (some f85l2) none .n f85p4
theorem f85t2 N a b c d (K : KT ρ) : f85i N (f85c 3) f85p2 (f85s1 a b c d) (joinK (some f85lE) K) =
  spec_l1Piece.Z2 N a b c d (fun e f => K .ret (f85s7 e f)) :=
 viaSeqS (fun k => spec_l1Piece.Z3 N a b c d k) (by kernel_rfl) (f85t3 N (K := seqK (fun σ => f85i N (f85c 7) f85p4 σ (joinK (some f85lE) K)) (joinK (some f85lE) K)) ..) (fx5 fun g a b c d => f85t4 N g a b c d K) (by kernel_rfl)
def f85p0 : Plan := .mk (some f85l1) none .n f85p2
theorem f85t0 N b a (K : KT ρ) : f85i N (f85c 1) f85p0 (f85s0 b a) (joinK (some f85lE) K) =
  spec_l1Piece.Z0 N b a (fun c d => K .ret (f85s7 c d)) :=
 viaSeqS (fun k => spec_l1Piece.Z1 N b a k) (by kernel_rfl) (f85t1 N (K := seqK (fun σ => f85i N (f85c 3) f85p2 σ (joinK (some f85lE) K)) (joinK (some f85lE) K)) ..) (fx4 fun a e f g => f85t2 N a e f g K) (by kernel_rfl)
theorem f85m (N : Nat) (a : MT) (b : Int) : f85i N (f85c 1) f85p0 (f85s0 a b) (joinK (some f85lE) (finK tab f85sig Try.f85.results.toList)) = spec_l1Piece.Z0 N a b (fun c d => some ((), (c, (d, ())))) :=
 (f85t0 N a b (finK tab f85sig Try.f85.results.toList)).trans (by kernel_rfl)
theorem f85ok (h : spec_l1Piece.Spec) : EntryOk Try.prog 85 e85 :=
 entry_of_code (sig := f85sig) (c := (f85c 1)) (pl := f85p0) (je := (some f85lE)) (B := f85B) Try.func85 (by kernel_rfl) (by kernel_rfl) (by kernel_rfl) tabOk f85GOk (by kernel_rfl) (by kernel_rfl) (by kernel_rfl) (by kernel_rfl) fun X hb hp => by
  obtain ⟨a, b, _⟩ := X
  obtain ⟨N, h⟩ := h a b hb.1 hp
  exact ⟨N, (f85m N a b).trans (h N (Nat.le_refl N))⟩
theorem e85ok : EntryOk Try.prog 85 e85 := f85ok spec_l1Piece.ok
end Go.Fw
namespace Go.Fw
variable {ρ : Type}
open Go.Proofs
def f86sig : Sig := ⟨[⟨.int .i64, false, false⟩], [⟨.int .i64, false, false⟩]⟩
def e86 : Entry := ⟨f86sig, none, fun X => ((), ((spec_l1Abs.g X.1), ()))⟩
def f86G : Gm := emptyG
theorem f86GOk : GOk Try.prog f86G := GOk.nil
def f86lE : Clean := ⟨[], [], [], [], []⟩
def f86s0 (a : Int) : St := initSt f86sig.ps (a, ())
def f86s1 (a : Int) : St := stOf [(2, xi a)] [] []
def f86l1 : Clean := ⟨[2], [], [], [], []⟩
def f86B : Nat → Option Clean := lookL [(1000000, f86l1)]
abbrev f86i {ρ : Type} (N : Nat) (c : Code) (p : Plan) (σ : St) (K : KT ρ) : Option ρ := iCode f86G tab f86B N c p σ K
def f86c (n : Nat) : Code := codeN 99 (bodyOf Try.f86) n
theorem f86t0 N a (K : KT ρ) : f86i N (f86c 1) .n (f86s0 a) (joinK (some f86lE) K) =
 spec_l1Abs.Z0 N a (fun b => K .ret (f86s1 b)) := by kernel_rfl
theorem f86m (N : Nat) (a : Int) : f86i N (f86c 1) .n (f86s0 a) (joinK (some f86lE) (finK tab f86sig Try.f86.results.toList)) = spec_l1Abs.Z0 N a (fun b => some ((), (b, ()))) :=
 (f86t0 N a (finK tab f86sig Try.f86.results.toList)).trans (by kernel_rfl)
theorem f86ok (h : spec_l1Abs.Spec) : EntryOk Try.prog 86 e86 :=
 entry_of_code (sig := f86sig) (c := (f86c 1)) (pl := .n) (je := (some f86lE)) (B := f86B) Try.func86 (by kernel_rfl) (by kernel_rfl) (by kernel_rfl) tabOk f86GOk (by kernel_rfl) (by kernel_rfl) (by kernel_rfl) (by kernel_rfl) fun X hb hp => by
  obtain ⟨a, _⟩ := X
  obtain ⟨N, h⟩ := h a
  exact ⟨N, (f86m N a).trans (h N (Nat.le_refl N))⟩
theorem e86ok : EntryOk Try.prog 86 e86 := f86ok spec_l1Abs.ok
end Go.Fw
namespace Go.Fw
variable {ρ : Type}
open Go.Proofs
def f87sig : Sig := ⟨[⟨.int .i64, false, false⟩, ⟨.int .i64, false, false⟩], [⟨.int .i64, false, false⟩]⟩
def e87 : Entry := ⟨f87sig, (some fun X => spec_l1Gcd.P X.1 X.2.1), fun X => ((), ((spec_l1Gcd.g X.1 X.2.1), ()))⟩
def f87G : Gm := emptyG
theorem f87GOk : GOk Try.prog f87G := GOk.nil
def f87lE : Clean := ⟨[], [], [], [], []⟩
def f87s0 (a b : Int) : St := initSt f87sig.ps (a, (b, ()))
def f87s1 (a b : Int) : St := stOf [(0, xi a), (1, xi b)] [] []
def f87l1 : Clean := ⟨[0, 1], [], [], [], []⟩
def f87s2 (a : Int) : St := stOf [(0, xi a)] [] []
def f87l2 : Clean := ⟨[0], [], [], [], []⟩
def f87s3 (a : Int) : St := stOf [(4, xi a)] [] []
def f87l3 : Clean := ⟨[4], [], [], [], []⟩
def f87B : Nat → Option Clean := lookL [(0, f87l2), (1000000, f87l3)]
abbrev f87i {ρ : Type} (N : Nat) (c : Code) (p : Plan) (σ : St) (K : KT ρ) : Option ρ := iCode f87G tab f87B N c p σ K
def f87c (n : Nat) : Code := codeN 99 (bodyOf Try.f87) n
theorem f87t1 N a b (K : KT ρ) : f87i N (f87c 2) .n (f87s0 a b) (joinK (some f87l1) K) =
 spec_l1Gcd.Z1 N a b (fun a b => K .nrm (f87s1 a b)) := by kernel_rfl
theorem f87t5 N a b (K : KT ρ) : f87i N (f87c 17) .n (f87s1 a b) (joinK (some f87l1) K) =
 spec_l1Gcd.Z5 N a b (fun a b => K .nrm (f87s1 a b)) (fun a => K (.exit 0) (f87s2 a)) := by kernel_rfl
def f87p4 : Plan := .mk none (some f87l1) .n .n
abbrev f87w4 {ρ : Type} (N M : Nat) (σ : St) (K : KT ρ) : Option ρ := loopC (fun σ K => f87i N (f87c 17) .n σ K) f87l1 M σ K
theorem f87t4L {ρ : Type} (N : Nat) (K : KT ρ) : ∀ (M : Nat) (a b : Int), f87w4 N M (f87s1 a b) K =
 spec_l1Gcd.Z4L N (fun a => K (.exit 0) (f87s2 a)) M a b
 | 0, _, _ => rfl
 | M + 1, a, b => viaRoundS (fun k => spec_l1Gcd.Z5 N a b k (fun a => K (.exit 0) (f87s2 a))) (f87t5 N (K := seqK (fun σ => f87w4 N M σ K) K) ..) (fx2 fun a b => f87t4L N K M a b) (by kernel_rfl)
theorem f87t4 N a b (K : KT ρ) : f87i N (f87c 9) f87p4 (f87s1 a b) (joinK (some f87l2) K) =
  spec_l1Gcd.Z4 N a b (fun a => K (.exit 0) (f87s2 a)) :=
 viaLoopS (by kernel_rfl) (f87t4L N (joinK (some f87l2) K) N a b) (by kernel_rfl)
def f87p3 : Plan := .mk (some f87l2) none f87p4 .n
theorem f87t3 N a b (K : KT ρ) : f87i N (f87c 5) f87p3 (f87s1 a b) (joinK (some f87l2) K) =
  spec_l1Gcd.Z3 N a b (fun a => K .nrm (f87s2 a)) :=
 viaBlockS (by kernel_rfl) (f87t4 N (K := blockK 0 (joinK (some f87l2) K)) ..) (by kernel_rfl)
theorem f87t6 N a (K : KT ρ) : f87i N (f87c 7) .n (f87s2 a) (joinK (some f87lE) K) =
 spec_l1Gcd.Z6 N a (fun b => K .ret (f87s3 b)) := by kernel_rfl
def f87p2 : Plan := .mk (some f87l2) none f87p3 .n
theorem f87t2 N a b (K : KT ρ) : f87i N (f87c 3) f87p2 (f87s1 a b) (joinK (some f87lE) K) =
  spec_l1Gcd.Z2 N a b (fun c => K .ret (f87s3 c)) :=
 viaSeqS (fun k => spec_l1Gcd.Z3 N a b k) (by kernel_rfl) (f87t3 N (K := seqK (fun σ => f87i N (f87c 7) .n σ (joinK (some f87lE) K)) (joinK (some f87lE) K)) ..) (funext fun a => f87t6 N a K) (by kernel_rfl)
def f87p0 : Plan := .mk (some f87l1) none .n f87p2
theorem f87t0 N a b (K : KT ρ) : f87i N (f87c 1) f87p0 (f87s0 a b) (joinK (some f87lE) K) =
  spec_l1Gcd.Z0 N a b (fun c => K .ret (f87s3 c)) :=
 viaSeqS (fun k => spec_l1Gcd.Z1 N a b k) (by kernel_rfl) (f87t1 N (K := seqK (fun σ => f87i N (f87c 3) f87p2 σ (joinK (some f87lE) K)) (joinK (some f87lE) K)) ..) (fx2 fun a b => f87t2 N a b K) (by kernel_rfl)
theorem f87m (N : Nat) (a b : Int) : f87i N (f87c 1) f87p0 (f87s0 a b) (joinK (some f87lE) (finK tab f87sig Try.f87.results.toList)) = spec_l1Gcd.Z0 N a b (fun c => some ((), (c, ()))) :=
 (f87t0 N a b (finK tab f87sig Try.f87.results.toList)).trans (by kernel_rfl)
theorem f87ok (h : spec_l1Gcd.Spec) : EntryOk Try.prog 87 e87 :=
 entry_of_code (sig := f87sig) (c := (f87c 1)) (pl := f87p0) (je := (some f87lE)) (B := f87B) Try.func87 (by kernel_rfl) (by kernel_rfl) (by kernel_rfl) tabOk f87GOk (by kernel_rfl) (by kernel_rfl) (by kernel_rfl) (by kernel_rfl) fun X hb hp => by
  obtain ⟨a, b, _⟩ := X
  obtain ⟨N, h⟩ := h a b hp
  exact ⟨N, (f87m N a b).trans (h N (Nat.le_refl N))⟩
theorem e87ok : EntryOk Try.prog 87 e87 := f87ok spec_l1Gcd.ok
end Go.Fw
namespace Go.Fw
variable {ρ : Type}
open Go.Proofs
def f65sig : Sig := ⟨[⟨.pair (.int .i64) (.pair (.int .i64) (.sl 3 (.int .i64))), true, false⟩], [⟨.sl 3 (.int .i64), false, false⟩, ⟨.bool, false, false⟩]⟩
def e65 : Entry := ⟨f65sig, (some fun X => spec_l1Factors.P X.1), fun X => ((), ((spec_l1Factors.g X.1).1, ((spec_l1Factors.g X.1).2, ())))⟩
def f65G : Gm := addG (addG (addG (addG emptyG 68 e68) 85 e85) 86 e86) 87 e87
theorem f65GOk : GOk Try.prog f65G := ((((GOk.nil).add e68ok (by kernel_rfl)).add e85ok (by kernel_rfl)).add e86ok (by kernel_rfl)).add e87ok (by kernel_rfl)
def f65lE : Clean := ⟨[], [], [], [], []⟩
def f65s0 (a : MT) : St := initSt f65sig.ps (a, ())
def f65s1 (a b : Int) (c : LI) : St := stOf [(1, xb 1)] [(1, (47, [yi a, yi b, .sn 3 tI c none]))] []
def f65l1 : Clean := ⟨[1], [1], [], [], []⟩
def f65s2 (a : LI) (b c : Int) (d : LI) : St := stOf [(1, xb 1), (4, xo 1000256)] [(1, (47, [yi b, yi c, .sn 3 tI d none]))] [(1000256, (⟨3, .int .i64, a, true, false⟩ : Row))]
def f65l2 : Clean := ⟨[1, 4], [1], [], [], [(⟨false, 4, 0⟩, 1000256)]⟩
def f65s3 (a : LI) (b c d : Int) (e : LI) : St := stOf [(1, xb 1), (4, xo 1000256), (5, xi b)] [(1, (47, [yi c, yi d, .sn 3 tI e none]))] [(1000256, (⟨3, .int .i64, a, true, false⟩ : Row))]
def f65l3 : Clean := ⟨[1, 4, 5], [1], [], [], [(⟨false, 4, 0⟩, 1000256)]⟩
def f65s4 (a b c : LI) (d e f : Int) (g : LI) : St := stOf [(1, xb 1), (4, xo 1000256), (5, xi d), (6, xo 1000384), (7, xo 1000448)] [(1, (47, [yi e, yi f, .sn 3 tI g none]))] [(1000256, (⟨3, .int .i64, a, true, false⟩ : Row)), (1000384, (⟨3, .int .i64, b, true, false⟩ : Row)), (1000448, (⟨3, .int .i64, c, true, false⟩ : Row))]
def f65l4 : Clean := ⟨[1, 4, 5, 6, 7], [1], [], [], [(⟨false, 4, 0⟩, 1000256), (⟨false, 6, 0⟩, 1000384), (⟨false, 7, 0⟩, 1000448)]⟩
def f65s5 (a b c : LI) (d e f g : Int) (h : LI) : St := stOf [(1, xb 1), (4, xo 1000256), (5, xi d), (6, xo 1000384), (7, xo 1000448), (8, xi e)] [(1, (47, [yi f, yi g, .sn 3 tI h none]))] [(1000256, (⟨3, .int .i64, a, true, false⟩ : Row)), (1000384, (⟨3, .int .i64, b, true, false⟩ : Row)), (1000448, (⟨3, .int .i64, c, true, false⟩ : Row))]
def f65l5 : Clean := ⟨[1, 4, 5, 6, 7, 8], [1], [], [], [(⟨false, 4, 0⟩, 1000256), (⟨false, 6, 0⟩, 1000384), (⟨false, 7, 0⟩, 1000448)]⟩
def f65s6 (a b c : LI) (d e f g : Int) (h : LI) : St := stOf [(1, xb 1), (4, xo 1000256), (5, xi d), (6, xo 1000384), (7, xo 1000448), (9, xi e)] [(1, (47, [yi f, yi g, .sn 3 tI h none]))] [(1000256, (⟨3, .int .i64, a, true, false⟩ : Row)), (1000384, (⟨3, .int .i64, b, true, false⟩ : Row)), (1000448, (⟨3, .int .i64, c, true, false⟩ : Row))]
def f65l6 : Clean := ⟨[1, 4, 5, 6, 7, 9], [1], [], [], [(⟨false, 4, 0⟩, 1000256), (⟨false, 6, 0⟩, 1000384), (⟨false, 7, 0⟩, 1000448)]⟩
def f65s7 (a b c : LI) (d e f g h : Int) (i : LI) : St := stOf [(1, xb 1), (4, xo 1000256), (5, xi d), (6, xo 1000384), (7, xo 1000448), (9, xi e), (10, xi f)] [(1, (47, [yi g, yi h, .sn 3 tI i none]))] [(1000256, (⟨3, .int .i64, a, true, false⟩ : Row)), (1000384, (⟨3, .int .i64, b, true, false⟩ : Row)), (1000448, (⟨3, .int .i64, c, true, false⟩ : Row))]
def f65l7 : Clean := ⟨[1, 4, 5, 6, 7, 9, 10], [1], [], [], [(⟨false, 4, 0⟩, 1000256), (⟨false, 6, 0⟩, 1000384), (⟨false, 7, 0⟩, 1000448)]⟩
def f65s8 (a b : LI) (c d e f : Int) (g : LI) : St := stOf [(1, xb 1), (4, xo 1000256), (5, xi c), (6, xo 1000384), (9, xi d)] [(1, (47, [yi e, yi f, .sn 3 tI g none]))] [(1000256, (⟨3, .int .i64, a, true, false⟩ : Row)), (1000384, (⟨3, .int .i64, b, true, false⟩ : Row))]
def f65l8 : Clean := ⟨[1, 4, 5, 6, 9], [1], [], [], [(⟨false, 4, 0⟩, 1000256), (⟨false, 6, 0⟩, 1000384)]⟩
def f65s9 (a b : LI) (c d e f g : Int) (h : LI) : St := stOf [(1, xb 1), (4, xo 1000256), (5, xi c), (6, xo 1000384), (9, xi d), (11, xi e)] [(1, (47, [yi f, yi g, .sn 3 tI h none]))] [(1000256, (⟨3, .int .i64, a, true, false⟩ : Row)), (1000384, (⟨3, .int .i64, b, true, false⟩ : Row))]
def f65l9 : Clean := ⟨[1, 4, 5, 6, 9, 11], [1], [], [], [(⟨false, 4, 0⟩, 1000256), (⟨false, 6, 0⟩, 1000384)]⟩
def f65s10 (a : LI) (b c d : Int) (e : LI) : St := stOf [(1, xb 1), (4, xo 1000256), (12, xi b)] [(1, (47, [yi c, yi d, .sn 3 tI e none]))] [(1000256, (⟨3, .int .i64, a, true, false⟩ : Row))]
def f65l10 : Clean := ⟨[1, 4, 12], [1], [], [], [(⟨false, 4, 0⟩, 1000256)]⟩
def f65s11 (a : LI) (b c d e : Int) (f : LI) : St := stOf [(1, xb 1), (4, xo 1000256), (12, xi b), (13, xi c)] [(1, (47, [yi d, yi e, .sn 3 tI f none]))] [(1000256, (⟨3, .int .i64, a, true, false⟩ : Row))]
def f65l11 : Clean := ⟨[1, 4, 12, 13], [1], [], [], [(⟨false, 4, 0⟩, 1000256)]⟩
def f65s12 (a : LI) : St := stOf [(4, xo 1000256)] [] [(1000256, (⟨3, .int .i64, a, true, false⟩ : Row))]
def f65l12 : Clean := ⟨[4], [], [], [], [(⟨false, 4, 0⟩, 1000256)]⟩
def f65s13 (a : LI) (b : Bool) : St := stOf [(2, xo 1000128), (3, xB b)] [] [(1000128, (⟨3, .int .i64, a, true, false⟩ : Row))]
def f65l13 : Clean := ⟨[2, 3], [], [⟨⟨false, 2, 0⟩, 30000000, 3, .int .i64, true⟩], [], [(⟨false, 2, 0⟩, 1000128)]⟩
def f65B : Nat → Option Clean := lookL [(2, f65l4), (4, f65l8), (6, f65l3), (1, f65l3), (0, f65l2), (10, f65l10), (9, f65l10), (8, f65l12), (1000000, f65l13)]
abbrev f65i {ρ : Type} (N : Nat) (c : Code) (p : Plan) (σ : St) (K : KT ρ) : Option ρ := iCode f65G tab f65B N c p σ K
def f65c (n : Nat) : Code := codeN 99 (bodyOf Try.f65) n
theorem f65t1 N a (K : KT ρ) : f65i N (f65c 2) .n (f65s0 a) (joinK (some f65l1) K) =
 spec_l1Factors.Z1 N a (fun b c d => K .nrm (f65s1 b c d)) := by kernel_rfl
theorem f65t3 N a b c (K : KT ρ) : f65i N (f65c 5) .n (f65s1 a b c) (joinK (some f65l2) K) =
 spec_l1Factors.Z3 N a b c (fun d a b c => K .nrm (f65s2 d a b c)) := by kernel_rfl
theorem f65t6 N a b c d (K : KT ρ) : f65i N (f65c 19) .n (f65s2 a b c d) (joinK (some f65l3) K) =
 spec_l1Factors.Z6 N a b c d (fun a e b c d => K .nrm (f65s3 a e b c d)) := by kernel_rfl
theorem f65t10 N a e b c d (K : KT ρ) : f65i N (f65c 139) .n (f65s3 a e b c d) (joinK (some f65l3) K) =
 spec_l1Factors.Z10 N a e b c d (fun a e b c d => K .nrm (f65s3 a e b c d)) (fun a b c d => K (.exit 0) (f65s2 a b c d)) := by kernel_rfl
theorem f65t14 N a b c d e (K : KT ρ) : f65i N (f65c 1099) .n (f65s3 a b c d e) (joinK (some f65l3) K) =
 spec_l1Factors.Z14 N a b c d e (fun a b c d e => K .nrm (f65s3 a b c d e)) (fun a b c d e => K (.exit 1) (f65s3 a b c d e)) := by kernel_rfl
theorem f65t16 N a b c d e (K : KT ρ) : f65i N (f65c 2635) .n (f65s3 a b c d e) (joinK (some f65l4) K) =
 spec_l1Factors.Z16 N a b c d e (fun a f g b c d e => K .nrm (f65s4 a f g b c d e)) := by kernel_rfl
theorem f65t18 N a b c d e f g (K : KT ρ) : f65i N (f65c 5707) .n (f65s4 a b c d e f g) (joinK (some f65l4) K) =
 spec_l1Factors.Z18 N a b c d e f g (fun a b c d e f g => K .nrm (f65s4 a b c d e f g)) := by kernel_rfl
theorem f65t21 N a b c d e f g (K : KT ρ) : f65i N (f65c 20043) .n (f65s4 a b c d e f g) (joinK (some f65l5) K) =
 spec_l1Factors.Z21 N a b c d e f g (fun a b c d h e f g => K .nrm (f65s5 a b c d h e f g)) := by kernel_rfl
theorem f65t24 N a b c d h e f g (K : KT ρ) : f65i N (f65c 77387) .n (f65s5 a b c d h e f g) (joinK (some f65l5) K) =
 spec_l1Factors.Z24 N a b c d h e f g (fun a b c d h e f g => K .nrm (f65s5 a b c d h e f g)) (fun a b c d e f g => K (.exit 2) (f65s4 a b c d e f g)) := by kernel_rfl
def f65p23 : Plan := .mk none (some f65l5) .n .n
abbrev f65w23 {ρ : Type} (N M : Nat) (σ : St) (K : KT ρ) : Option ρ := loopC (fun σ K => f65i N (f65c 77387) .n σ K) f65l5 M σ K
theorem f65t23L {ρ : Type} (N : Nat) (K : KT ρ) : ∀ (M : Nat) (a b c : LI) (d h e f : Int) (g : LI), f65w23 N M (f65s5 a b c d h e f g) K =
 spec_l1Factors.Z23L N (fun a b c d e f g => K (.exit 2) (f65s4 a b c d e f g)) M a b c d h e f g
 | 0, _, _, _, _, _, _, _, _ => rfl
 | M + 1, a, b, c, d, h, e, f, g => viaRoundS (fun k => spec_l1Factors.Z24 N a b c d h e f g k (fun a b c d e f g => K (.exit 2) (f65s4 a b c d e f g))) (f65t24 N (K := seqK (fun σ => f65w23 N M σ K) K) ..) (fx8 fun a b c d h e f g => f65t23L N K M a b c d h e f g) (by kernel_rfl)
theorem f65t23 N a b c d h e f g (K : KT ρ) : f65i N (f65c 44619) f65p23 (f65s5 a b c d h e f g) (joinK (some f65l4) K) =
  spec_l1Factors.Z23 N a b c d h e f g (fun a b c d e f g => K (.exit 2) (f65s4 a b c d e f g)) :=
 viaLoopS (by kernel_rfl) (f65t23L N (joinK (some f65l4) K) N a b c d h e f g) (by kernel_rfl)
def f65p22 : Plan := .mk (some f65l4) none f65p23 .n
theorem f65t22 N a b c d h e f g (K : KT ρ) : f65i N (f65c 28235) f65p22 (f65s5 a b c d h e f g) (joinK (some f65l4) K) =
  spec_l1Factors.Z22 N a b c d h e f g (fun a b c d e f g => K .nrm (f65s4 a b c d e f g)) :=
 viaBlockS (by kernel_rfl) (f65t23 N (K := blockK 2 (joinK (some f65l4) K)) ..) (by kernel_rfl)
def f65p20 : Plan := .mk (some f65l5) none .n f65p22
theorem f65t20 N a b c d e f g (K : KT ρ) : f65i N (f65c 11851) f65p20 (f65s4 a b c d e f g) (joinK (some f65l4) K) =
  spec_l1Factors.Z20 N a b c d e f g (fun a b c d e f g => K .nrm (f65s4 a b c d e f g)) :=
 viaSeqS (fun k => spec_l1Factors.Z21 N a b c d e f g k) (by kernel_rfl) (f65t21 N (K := seqK (fun σ => f65i N (f65c 28235) f65p22 σ (joinK (some f65l4) K)) (joinK (some f65l4) K)) ..) (fx8 fun a b c d h e f g => f65t22 N a b c d h e f g K) (by kernel_rfl)
theorem f65t26 N a b c d e f g (K : KT ρ) : f65i N (f65c 24139) .n (f65s4 a b c d e f g) (joinK (some f65l6) K) =
 spec_l1Factors.Z26 N a b c d e f g (fun a b c d h e f g => K .nrm (f65s6 a b c d h e f g)) := by kernel_rfl
theorem f65t29 N a b c d e f g h (K : KT ρ) : f65i N (f65c 81483) .n (f65s6 a b c d e f g h) (joinK (some f65l7) K) =
 spec_l1Factors.Z29 N a b c d e f g h (fun a b c d e i f g h => K .nrm (f65s7 a b c d e i f g h)) := by kernel_rfl
theorem f65t32 N a b h c d i e f g (K : KT ρ) : f65i N (f65c 310859) .n (f65s7 a b h c d i e f g) (joinK (some f65l7) K) =
 spec_l1Factors.Z32 N a b h c d i e f g (fun a b h c d i e f g => K .nrm (f65s7 a b h c d i e f g)) (fun a b c d e f g => K (.exit 4) (f65s8 a b c d e f g)) := by kernel_rfl
def f65p31 : Plan := .mk none (some f65l7) .n .n
abbrev f65w31 {ρ : Type} (N M : Nat) (σ : St) (K : KT ρ) : Option ρ := loopC (fun σ K => f65i N (f65c 310859) .n σ K) f65l7 M σ K
theorem f65t31L {ρ : Type} (N : Nat) (K : KT ρ) : ∀ (M : Nat) (a b h : LI) (c d i e f : Int) (g : LI), f65w31 N M (f65s7 a b h c d i e f g) K =
 spec_l1Factors.Z31L N (fun a b c d e f g => K (.exit 4) (f65s8 a b c d e f g)) M a b h c d i e f g
 | 0, _, _, _, _, _, _, _, _, _ => rfl
 | M + 1, a, b, h, c, d, i, e, f, g => viaRoundS (fun k => spec_l1Factors.Z32 N a b h c d i e f g k (fun a b c d e f g => K (.exit 4) (f65s8 a b c d e f g))) (f65t32 N (K := seqK (fun σ => f65w31 N M σ K) K) ..) (fx9 fun a b h c d i e f g => f65t31L N K M a b h c d i e f g) (by kernel_rfl)
theorem f65t31 N a b h c d i e f g (K : KT ρ) : f65i N (f65c 179787) f65p31 (f65s7 a b h c d i e f g) (joinK (some f65l8) K) =
  spec_l1Factors.Z31 N a b h c d i e f g (fun a b c d e f g => K (.exit 4) (f65s8 a b c d e f g)) :=
 viaLoopS (by kernel_rfl) (f65t31L N (joinK (some f65l8) K) N a b h c d i e f g) (by kernel_rfl)
def f65p30 : Plan := .mk (some f65l8) none f65p31 .n
theorem f65t30 N a b h c d i e f g (K : KT ρ) : f65i N (f65c 114251) f65p30 (f65s7 a b h c d i e f g) (joinK (some f65l8) K) =
  spec_l1Factors.Z30 N a b h c d i e f g (fun a b c d e f g => K .nrm (f65s8 a b c d e f g)) :=
 viaBlockS (by kernel_rfl) (f65t31 N (K := blockK 4 (joinK (some f65l8) K)) ..) (by kernel_rfl)
def f65p28 : Plan := .mk (some f65l7) none .n f65p30
theorem f65t28 N a b h c d e f g (K : KT ρ) : f65i N (f65c 48715) f65p28 (f65s6 a b h c d e f g) (joinK (some f65l8) K) =
  spec_l1Factors.Z28 N a b h c d e f g (fun a b c d e f g => K .nrm (f65s8 a b c d e f g)) :=
 viaSeqS (fun k => spec_l1Factors.Z29 N a b h c d e f g k) (by kernel_rfl) (f65t29 N (K := seqK (fun σ => f65i N (f65c 114251) f65p30 σ (joinK (some f65l8) K)) (joinK (some f65l8) K)) ..) (fx9 fun a b h c d i e f g => f65t30 N a b h c d i e f g K) (by kernel_rfl)
theorem f65t34 N a b c d e f g (K : KT ρ) : f65i N (f65c 97867) .n (f65s8 a b c d e f g) (joinK (some f65l9) K) =
 spec_l1Factors.Z34 N a b c d e f g (fun a b c d h e f g => K .nrm (f65s9 a b c d h e f g)) := by kernel_rfl
theorem f65t37 N a f b g h c d e (K : KT ρ) : f65i N (f65c 327243) .n (f65s9 a f b g h c d e) (joinK (some f65l9) K) =
 spec_l1Factors.Z37 N a f b g h c d e (fun a f b g h c d e => K .nrm (f65s9 a f b g h c d e)) (fun a b c d e => K (.exit 6) (f65s3 a b c d e)) := by kernel_rfl
def f65p36 : Plan := .mk none (some f65l9) .n .n
abbrev f65w36 {ρ : Type} (N M : Nat) (σ : St) (K : KT ρ) : Option ρ := loopC (fun σ K => f65i N (f65c 327243) .n σ K) f65l9 M σ K
theorem f65t36L {ρ : Type} (N : Nat) (K : KT ρ) : ∀ (M : Nat) (a f : LI) (b g h c d : Int) (e : LI), f65w36 N M (f65s9 a f b g h c d e) K =
 spec_l1Factors.Z36L N (fun a b c d e => K (.exit 6) (f65s3 a b c d e)) M a f b g h c d e
 | 0, _, _, _, _, _, _, _, _ => rfl
 | M + 1, a, f, b, g, h, c, d, e => viaRoundS (fun k => spec_l1Factors.Z37 N a f b g h c d e k (fun a b c d e => K (.exit 6) (f65s3 a b c d e))) (f65t37 N (K := seqK (fun σ => f65w36 N M σ K) K) ..) (fx8 fun a f b g h c d e => f65t36L N K M a f b g h c d e) (by kernel_rfl)
theorem f65t36 N a f b g h c d e (K : KT ρ) : f65i N (f65c 196171) f65p36 (f65s9 a f b g h c d e) (joinK (some f65l3) K) =
  spec_l1Factors.Z36 N a f b g h c d e (fun a b c d e => K (.exit 6) (f65s3 a b c d e)) :=
 viaLoopS (by kernel_rfl) (f65t36L N (joinK (some f65l3) K) N a f b g h c d e) (by kernel_rfl)
def f65p35 : Plan := .mk (some f65l3) none f65p36 .n
theorem f65t35 N a f b g h c d e (K : KT ρ) : f65i N (f65c 130635) f65p35 (f65s9 a f b g h c d e) (joinK (some f65l3) K) =
  spec_l1Factors.Z35 N a f b g h c d e (fun a b c d e => K .nrm (f65s3 a b c d e)) :=
 viaBlockS (by kernel_rfl) (f65t36 N (K := blockK 6 (joinK (some f65l3) K)) ..) (by kernel_rfl)
def f65p33 : Plan := .mk (some f65l9) none .n f65p35
theorem f65t33 N a f b g c d e (K : KT ρ) : f65i N (f65c 65099) f65p33 (f65s8 a f b g c d e) (joinK (some f65l3) K) =
  spec_l1Factors.Z33 N a f b g c d e (fun a b c d e => K .nrm (f65s3 a b c d e)) :=
 viaSeqS (fun k => spec_l1Factors.Z34 N a f b g c d e k) (by kernel_rfl) (f65t34 N (K := seqK (fun σ => f65i N (f65c 130635) f65p35 σ (joinK (some f65l3) K)) (joinK (some f65l3) K)) ..) (fx8 fun a f b g h c d e => f65t35 N a f b g h c d e K) (by kernel_rfl)
def f65p27 : Plan := .mk (some f65l8) none f65p28 f65p33
theorem f65t27 N a f h b g c d e (K : KT ρ) : f65i N (f65c 32331) f65p27 (f65s6 a f h b g c d e) (joinK (some f65l3) K) =
  spec_l1Factors.Z27 N a f h b g c d e (fun a b c d e => K .nrm (f65s3 a b c d e)) :=
 viaSeqS (fun k => spec_l1Factors.Z28 N a f h b g c d e k) (by kernel_rfl) (f65t28 N (K := seqK (fun σ => f65i N (f65c 65099) f65p33 σ (joinK (some f65l3) K)) (joinK (some f65l3) K)) ..) (fx7 fun a f b g c d e => f65t33 N a f b g c d e K) (by kernel_rfl)
def f65p25 : Plan := .mk (some f65l6) none .n f65p27
theorem f65t25 N a f g b c d e (K : KT ρ) : f65i N (f65c 15947) f65p25 (f65s4 a f g b c d e) (joinK (some f65l3) K) =
  spec_l1Factors.Z25 N a f g b c d e (fun a b c d e => K .nrm (f65s3 a b c d e)) :=
 viaSeqS (fun k => spec_l1Factors.Z26 N a f g b c d e k) (by kernel_rfl) (f65t26 N (K := seqK (fun σ => f65i N (f65c 32331) f65p27 σ (joinK (some f65l3) K)) (joinK (some f65l3) K)) ..) (fx8 fun a f g b h c d e => f65t27 N a f g b h c d e K) (by kernel_rfl)
def f65p19 : Plan := .mk (some f65l4) none f65p20 f65p25
theorem f65t19 N a f g b c d e (K : KT ρ) : f65i N (f65c 7755) f65p19 (f65s4 a f g b c d e) (joinK (some f65l3) K) =
  spec_l1Factors.Z19 N a f g b c d e (fun a b c d e => K .nrm (f65s3 a b c d e)) :=
 viaSeqS (fun k => spec_l1Factors.Z20 N a f g b c d e k) (by kernel_rfl) (f65t20 N (K := seqK (fun σ => f65i N (f65c 15947) f65p25 σ (joinK (some f65l3) K)) (joinK (some f65l3) K)) ..) (fx7 fun a f g b c d e => f65t25 N a f g b c d e K) (by kernel_rfl)
def f65p17 : Plan := .mk (some f65l4) none .n f65p19
theorem f65t17 N a f g b c d e (K : KT ρ) : f65i N (f65c 3659) f65p17 (f65s4 a f g b c d e) (joinK (some f65l3) K) =
  spec_l1Factors.Z17 N a f g b c d e (fun a b c d e => K .nrm (f65s3 a b c d e)) :=
 viaSeqS (fun k => spec_l1Factors.Z18 N a f g b c d e k) (by kernel_rfl) (f65t18 N (K := seqK (fun σ => f65i N (f65c 7755) f65p19 σ (joinK (some f65l3) K)) (joinK (some f65l3) K)) ..) (fx7 fun a f g b c d e => f65t19 N a f g b c d e K) (by kernel_rfl)
def f65p15 : Plan := .mk (some f65l4) none .n f65p17
theorem f65t15 N a b c d e (K : KT ρ) : f65i N (f65c 1611) f65p15 (f65s3 a b c d e) (joinK (some f65l3) K) =
  spec_l1Factors.Z15 N a b c d e (fun a b c d e => K .nrm (f65s3 a b c d e)) :=
 viaSeqS (fun k => spec_l1Factors.Z16 N a b c d e k) (by kernel_rfl) (f65t16 N (K := seqK (fun σ => f65i N (f65c 3659) f65p17 σ (joinK (some f65l3) K)) (joinK (some f65l3) K)) ..) (fx7 fun a f g b c d e => f65t17 N a f g b c d e K) (by kernel_rfl)
def f65p13 : Plan := .mk (some f65l3) none .n f65p15
theorem f65t13 N a b c d e (K : KT ρ) : f65i N (f65c 587) f65p13 (f65s3 a b c d e) (joinK (some f65l3) K) =
  spec_l1Factors.Z13 N a b c d e (fun a b c d e => K .nrm (f65s3 a b c d e)) (fun a b c d e => K (.exit 1) (f65s3 a b c d e)) :=
 viaSeqS (fun k => spec_l1Factors.Z14 N a b c d e k (fun a b c d e => K (.exit 1) (f65s3 a b c d e))) (by kernel_rfl) (f65t14 N (K := seqK (fun σ => f65i N (f65c 1611) f65p15 σ (joinK (some f65l3) K)) (joinK (some f65l3) K)) ..) (fx5 fun a b c d e => f65t15 N a b c d e K) (by kernel_rfl)
def f65p12 : Plan := .mk (some f65l3) none f65p13 .n
theorem f65t12 N a b c d e (K : KT ρ) : f65i N (f65c 331) f65p12 (f65s3 a b c d e) (joinK (some f65l3) K) =
  spec_l1Factors.Z12 N a b c d e (fun a b c d e => K .nrm (f65s3 a b c d e)) :=
 viaBlockS (by kernel_rfl) (f65t13 N (K := blockK 1 (joinK (some f65l3) K)) ..) (by kernel_rfl)
theorem f65t38 N a b c d e (K : KT ρ) : f65i N (f65c 459) .n (f65s3 a b c d e) (joinK (some f65l3) K) =
 spec_l1Factors.Z38 N a b c d e (fun a b c d e => K .nrm (f65s3 a b c d e)) := by kernel_rfl
def f65p11 : Plan := .mk (some f65l3) none f65p12 .n
theorem f65t11 N a b c d e (K : KT ρ) : f65i N (f65c 203) f65p11 (f65s3 a b c d e) (joinK (some f65l3) K) =
  spec_l1Factors.Z11 N a b c d e (fun a b c d e => K .nrm (f65s3 a b c d e)) :=
 viaSeqS (fun k => spec_l1Factors.Z12 N a b c d e k) (by kernel_rfl) (f65t12 N (K := seqK (fun σ => f65i N (f65c 459) .n σ (joinK (some f65l3) K)) (joinK (some f65l3) K)) ..) (fx5 fun a b c d e => f65t38 N a b c d e K) (by kernel_rfl)
def f65p9 : Plan := .mk (some f65l3) none .n f65p11
theorem f65t9 N a e b c d (K : KT ρ) : f65i N (f65c 75) f65p9 (f65s3 a e b c d) (joinK (some f65l3) K) =
  spec_l1Factors.Z9 N a e b c d (fun a e b c d => K .nrm (f65s3 a e b c d)) (fun a b c d => K (.exit 0) (f65s2 a b c d)) :=
 viaSeqS (fun k => spec_l1Factors.Z10 N a e b c d k (fun a b c d => K (.exit 0) (f65s2 a b c d))) (by kernel_rfl) (f65t10 N (K := seqK (fun σ => f65i N (f65c 203) f65p11 σ (joinK (some f65l3) K)) (joinK (some f65l3) K)) ..) (fx5 fun a e b c d => f65t11 N a e b c d K) (by kernel_rfl)
def f65p8 : Plan := .mk none (some f65l3) f65p9 .n
abbrev f65w8 {ρ : Type} (N M : Nat) (σ : St) (K : KT ρ) : Option ρ := loopC (fun σ K => f65i N (f65c 75) f65p9 σ K) f65l3 M σ K
theorem f65t8L {ρ : Type} (N : Nat) (K : KT ρ) : ∀ (M : Nat) (a : LI) (e b c : Int) (d : LI), f65w8 N M (f65s3 a e b c d) K =
 spec_l1Factors.Z8L N (fun a b c d => K (.exit 0) (f65s2 a b c d)) M a e b c d
 | 0, _, _, _, _, _ => rfl
 | M + 1, a, e, b, c, d => viaRoundS (fun k => spec_l1Factors.Z9 N a e b c d k (fun a b c d => K (.exit 0) (f65s2 a b c d))) (f65t9 N (K := seqK (fun σ => f65w8 N M σ K) K) ..) (fx5 fun a e b c d => f65t8L N K M a e b c d) (by kernel_rfl)
theorem f65t8 N a e b c d (K : KT ρ) : f65i N (f65c 43) f65p8 (f65s3 a e b c d) (joinK (some f65l2) K) =
  spec_l1Factors.Z8 N a e b c d (fun a b c d => K (.exit 0) (f65s2 a b c d)) :=
 viaLoopS (by kernel_rfl) (f65t8L N (joinK (some f65l2) K) N a e b c d) (by kernel_rfl)
def f65p7 : Plan := .mk (some f65l2) none f65p8 .n
theorem f65t7 N a e b c d (K : KT ρ) : f65i N (f65c 27) f65p7 (f65s3 a e b c d) (joinK (some f65l2) K) =
  spec_l1Factors.Z7 N a e b c d (fun a b c d => K .nrm (f65s2 a b c d)) :=
 viaBlockS (by kernel_rfl) (f65t8 N (K := blockK 0 (joinK (some f65l2) K)) ..) (by kernel_rfl)
def f65p5 : Plan := .mk (some f65l3) none .n f65p7
theorem f65t5 N a b c d (K : KT ρ) : f65i N (f65c 11) f65p5 (f65s2 a b c d) (joinK (some f65l2) K) =
  spec_l1Factors.Z5 N a b c d (fun a b c d => K .nrm (f65s2 a b c d)) :=
 viaSeqS (fun k => spec_l1Factors.Z6 N a b c d k) (by kernel_rfl) (f65t6 N (K := seqK (fun σ => f65i N (f65c 27) f65p7 σ (joinK (some f65l2) K)) (joinK (some f65l2) K)) ..) (fx5 fun a e b c d => f65t7 N a e b c d K) (by kernel_rfl)
theorem f65t41 N a b c d (K : KT ρ) : f65i N (f65c 39) .n (f65s2 a b c d) (joinK (some f65l10) K) =
 spec_l1Factors.Z41 N a b c d (fun a e b c d => K .nrm (f65s10 a e b c d)) := by kernel_rfl
theorem f65t45 N a b c d e (K : KT ρ) : f65i N (f65c 279) .n (f65s10 a b c d e) (joinK (some f65l10) K) =
 spec_l1Factors.Z45 N a b c d e (fun a b c d e => K .nrm (f65s10 a b c d e)) (fun a => K (.exit 8) (f65s12 a)) := by kernel_rfl
theorem f65t49 N a b c d e (K : KT ρ) : f65i N (f65c 2199) .n (f65s10 a b c d e) (joinK (some f65l11) K) =
 spec_l1Factors.Z49 N a b c d e (fun a b f c d e => K .nrm (f65s11 a b f c d e)) := by kernel_rfl
theorem f65t52 N a b f c d e (K : KT ρ) : f65i N (f65c 9367) .n (f65s11 a b f c d e) (joinK (some f65l11) K) =
 spec_l1Factors.Z52 N a b f c d e (fun a b f c d e => K .nrm (f65s11 a b f c d e)) (fun a b c d e => K (.exit 10) (f65s10 a b c d e)) (fun g h => K .ret (f65s13 g h)) := by kernel_rfl
def f65p51 : Plan := .mk none (some f65l11) .n .n
abbrev f65w51 {ρ : Type} (N M : Nat) (σ : St) (K : KT ρ) : Option ρ := loopC (fun σ K => f65i N (f65c 9367) .n σ K) f65l11 M σ K
theorem f65t51L {ρ : Type} (N : Nat) (K : KT ρ) : ∀ (M : Nat) (a : LI) (b f c d : Int) (e : LI), f65w51 N M (f65s11 a b f c d e) K =
 spec_l1Factors.Z51L N (fun a b c d e => K (.exit 10) (f65s10 a b c d e)) (fun g h => K .ret (f65s13 g h)) M a b f c d e
 | 0, _, _, _, _, _, _ => rfl
 | M + 1, a, b, f, c, d, e => viaRoundS (fun k => spec_l1Factors.Z52 N a b f c d e k (fun a b c d e => K (.exit 10) (f65s10 a b c d e)) (fun g h => K .ret (f65s13 g h))) (f65t52 N (K := seqK (fun σ => f65w51 N M σ K) K) ..) (fx6 fun a b f c d e => f65t51L N K M a b f c d e) (by kernel_rfl)
theorem f65t51 N a b f c d e (K : KT ρ) : f65i N (f65c 5271) f65p51 (f65s11 a b f c d e) (joinK (some f65l10) K) =
  spec_l1Factors.Z51 N a b f c d e (fun a b c d e => K (.exit 10) (f65s10 a b c d e)) (fun g h => K .ret (f65s13 g h)) :=
 viaLoopS (by kernel_rfl) (f65t51L N (joinK (some f65l10) K) N a b f c d e) (by kernel_rfl)
def f65p50 : Plan := .mk (some f65l10) none f65p51 .n
theorem f65t50 N a b f c d e (K : KT ρ) : f65i N (f65c 3223) f65p50 (f65s11 a b f c d e) (joinK (some f65l10) K) =
  spec_l1Factors.Z50 N a b f c d e (fun a b c d e => K .nrm (f65s10 a b c d e)) (fun g h => K .ret (f65s13 g h)) :=
 viaBlockS (by kernel_rfl) (f65t51 N (K := blockK 10 (joinK (some f65l10) K)) ..) (by kernel_rfl)
def f65p48 : Plan := .mk (some f65l11) none .n f65p50
theorem f65t48 N a b c d e (K : KT ρ) : f65i N (f65c 1175) f65p48 (f65s10 a b c d e) (joinK (some f65l10) K) =
  spec_l1Factors.Z48 N a b c d e (fun a b c d e => K .nrm (f65s10 a b c d e)) (fun f g => K .ret (f65s13 f g)) :=
 viaSeqS (fun k => spec_l1Factors.Z49 N a b c d e k) (by kernel_rfl) (f65t49 N (K := seqK (fun σ => f65i N (f65c 3223) f65p50 σ (joinK (some f65l10) K)) (joinK (some f65l10) K)) ..) (fx6 fun a b h c d e => f65t50 N a b h c d e K) (by kernel_rfl)
def f65p47 : Plan := .mk (some f65l10) none f65p48 .n
theorem f65t47 N a b c d e (K : KT ρ) : f65i N (f65c 663) f65p47 (f65s10 a b c d e) (joinK (some f65l10) K) =
  spec_l1Factors.Z47 N a b c d e (fun a b c d e => K .nrm (f65s10 a b c d e)) (fun f g => K .ret (f65s13 f g)) :=
 viaBlockS (by kernel_rfl) (f65t48 N (K := blockK 9 (joinK (some f65l10) K)) ..) (by kernel_rfl)
theorem f65t53 N a b c d e (K : KT ρ) : f65i N (f65c 919) .n (f65s10 a b c d e) (joinK (some f65l10) K) =
 spec_l1Factors.Z53 N a b c d e (fun a b c d e => K .nrm (f65s10 a b c d e)) := by kernel_rfl
def f65p46 : Plan := .mk (some f65l10) none f65p47 .n
theorem f65t46 N a b c d e (K : KT ρ) : f65i N (f65c 407) f65p46 (f65s10 a b c d e) (joinK (some f65l10) K) =
  spec_l1Factors.Z46 N a b c d e (fun a b c d e => K .nrm (f65s10 a b c d e)) (fun f g => K .ret (f65s13 f g)) :=
 viaSeqS (fun k => spec_l1Factors.Z47 N a b c d e k (fun f g => K .ret (f65s13 f g))) (by kernel_rfl) (f65t47 N (K := seqK (fun σ => f65i N (f65c 919) .n σ (joinK (some f65l10) K)) (joinK (some f65l10) K)) ..) (fx5 fun a b c d e => f65t53 N a b c d e K) (by kernel_rfl)
def f65p44 : Plan := .mk (some f65l10) none .n f65p46
theorem f65t44 N a b c d e (K : KT ρ) : f65i N (f65c 151) f65p44 (f65s10 a b c d e) (joinK (some f65l10) K) =
  spec_l1Factors.Z44 N a b c d e (fun a b c d e => K .nrm (f65s10 a b c d e)) (fun a => K (.exit 8) (f65s12 a)) (fun f g => K .ret (f65s13 f g)) :=
 viaSeqS (fun k => spec_l1Factors.Z45 N a b c d e k (fun a => K (.exit 8) (f65s12 a))) (by kernel_rfl) (f65t45 N (K := seqK (fun σ => f65i N (f65c 407) f65p46 σ (joinK (some f65l10) K)) (joinK (some f65l10) K)) ..) (fx5 fun a b c d e => f65t46 N a b c d e K) (by kernel_rfl)
def f65p43 : Plan := .mk none (some f65l10) f65p44 .n
abbrev f65w43 {ρ : Type} (N M : Nat) (σ : St) (K : KT ρ) : Option ρ := loopC (fun σ K => f65i N (f65c 151) f65p44 σ K) f65l10 M σ K
theorem f65t43L {ρ : Type} (N : Nat) (K : KT ρ) : ∀ (M : Nat) (a : LI) (b c d : Int) (e : LI), f65w43 N M (f65s10 a b c d e) K =
 spec_l1Factors.Z43L N (fun a => K (.exit 8) (f65s12 a)) (fun f g => K .ret (f65s13 f g)) M a b c d e
 | 0, _, _, _, _, _ => rfl
 | M + 1, a, b, c, d, e => viaRoundS (fun k => spec_l1Factors.Z44 N a b c d e k (fun a => K (.exit 8) (f65s12 a)) (fun f g => K .ret (f65s13 f g))) (f65t44 N (K := seqK (fun σ => f65w43 N M σ K) K) ..) (fx5 fun a b c d e => f65t43L N K M a b c d e) (by kernel_rfl)
theorem f65t43 N a b c d e (K : KT ρ) : f65i N (f65c 87) f65p43 (f65s10 a b c d e) (joinK (some f65l12) K) =
  spec_l1Factors.Z43 N a b c d e (fun a => K (.exit 8) (f65s12 a)) (fun f g => K .ret (f65s13 f g)) :=
 viaLoopS (by kernel_rfl) (f65t43L N (joinK (some f65l12) K) N a b c d e) (by kernel_rfl)
def f65p42 : Plan := .mk (some f65l12) none f65p43 .n
theorem f65t42 N a b c d e (K : KT ρ) : f65i N (f65c 55) f65p42 (f65s10 a b c d e) (joinK (some f65l12) K) =
  spec_l1Factors.Z42 N a b c d e (fun a => K .nrm (f65s12 a)) (fun f g => K .ret (f65s13 f g)) :=
 viaBlockS (by kernel_rfl) (f65t43 N (K := blockK 8 (joinK (some f65l12) K)) ..) (by kernel_rfl)
def f65p40 : Plan := .mk (some f65l10) none .n f65p42
theorem f65t40 N a b c d (K : KT ρ) : f65i N (f65c 23) f65p40 (f65s2 a b c d) (joinK (some f65l12) K) =
  spec_l1Factors.Z40 N a b c d (fun a => K .nrm (f65s12 a)) (fun e f => K .ret (f65s13 e f)) :=
 viaSeqS (fun k => spec_l1Factors.Z41 N a b c d k) (by kernel_rfl) (f65t41 N (K := seqK (fun σ => f65i N (f65c 55) f65p42 σ (joinK (some f65l12) K)) (joinK (some f65l12) K)) ..) (fx5 fun a g b c d => f65t42 N a g b c d K) (by kernel_rfl)
theorem f65t54 N a (K : KT ρ) : f65i N (f65c 31) .n (f65s12 a) (joinK (some f65lE) K) =
 spec_l1Factors.Z54 N a (fun b c => K .ret (f65s13 b c)) := by kernel_rfl
def f65p39 : Plan := .mk (some f65l12) none f65p40 .n
theorem f65t39 N a b c d (K : KT ρ) : f65i N (f65c 15) f65p39 (f65s2 a b c d) (joinK (some f65lE) K) =
  spec_l1Factors.Z39 N a b c d (fun e f => K .ret (f65s13 e f)) :=
 viaSeqS (fun k => spec_l1Factors.Z40 N a b c d k (fun e f => K .ret (f65s13 e f))) (by kernel_rfl) (f65t40 N (K := seqK (fun σ => f65i N (f65c 31) .n σ (joinK (some f65lE) K)) (joinK (some f65lE) K)) ..) (funext fun a => f65t54 N a K) (by kernel_rfl)
def f65p4 : Plan := .mk (some f65l2) none f65p5 f65p39
theorem f65t4 N a b c d (K : KT ρ) : f65i N (f65c 7) f65p4 (f65s2 a b c d) (joinK (some f65lE) K) =
  spec_l1Factors.Z4 N a b c d (fun e f => K .ret (f65s13 e f)) :=
 viaSeqS (fun k => spec_l1Factors.Z5 N a b c d k) (by kernel_rfl) (f65t5 N (K := seqK (fun σ => f65i N (f65c 15) f65p39 σ (joinK (some f65lE) K)) (joinK (some f65lE) K)) ..) (fx4 fun a b c d => f65t39 N a b c d K) (by kernel_rfl)
def f65p2 : Plan := .mk (some f65l2) none .n f65p4
theorem f65t2 N a b c (K : KT ρ) : f65i N (f65c 3) f65p2 (f65s1 a b c) (joinK (some f65lE) K) =
  spec_l1Factors.Z2 N a b c (fun d e => K .ret (f65s13 d e)) :=
 viaSeqS (fun k => spec_l1Factors.Z3 N a b c k) (by kernel_rfl) (f65t3 N (K := seqK (fun σ => f65i N (f65c 7) f65p4 σ (joinK (some f65lE) K)) (joinK (some f65lE) K)) ..) (fx4 fun f a b c => f65t4 N f a b c K) (by kernel_rfl)
def f65p0 : Plan := .mk (some f65l1) none .n f65p2
theorem f65t0 N a (K : KT ρ) : f65i N (f65c 1) f65p0 (f65s0 a) (joinK (some f65lE) K) =
  spec_l1Factors.Z0 N a (fun b c => K .ret (f65s13 b c)) :=
 viaSeqS (fun k => spec_l1Factors.Z1 N a k) (by kernel_rfl) (f65t1 N (K := seqK (fun σ => f65i N (f65c 3) f65p2 σ (joinK (some f65lE) K)) (joinK (some f65lE) K)) ..) (fx3 fun d e f => f65t2 N d e f K) (by kernel_rfl)
theorem f65m (N : Nat) (a : MT) : f65i N (f65c 1) f65p0 (f65s0 a) (joinK (some f65lE) (finK tab f65sig Try.f65.results.toList)) = spec_l1Factors.Z0 N a (fun b c => some ((), (b, (c, ())))) :=
 (f65t0 N a (finK tab f65sig Try.f65.results.toList)).trans (by kernel_rfl)
theorem f65ok (h : spec_l1Factors.Spec) : EntryOk Try.prog 65 e65 :=
 entry_of_code (sig := f65sig) (c := (f65c 1)) (pl := f65p0) (je := (some f65lE)) (B := f65B) Try.func65 (by kernel_rfl) (by kernel_rfl) (by kernel_rfl) tabOk f65GOk (by kernel_rfl) (by kernel_rfl) (by kernel_rfl) (by kernel_rfl) fun X hb hp => by
  obtain ⟨a, _⟩ := X
  obtain ⟨N, h⟩ := h a hb.1 hp
  exact ⟨N, (f65m N a).trans (h N (Nat.le_refl N))⟩
theorem e65ok : EntryOk Try.prog 65 e65 := f65ok spec_l1Factors.ok
end Go.Fw
namespace Go.Fw
variable {ρ : Type}
open Go.Proofs
def f31sig : Sig := ⟨[⟨.pair (.int .i64) (.pair (.int .i64) (.sl 3 (.int .i64))), true, false⟩], [⟨.bool, false, false⟩]⟩
def e31 : Entry := ⟨f31sig, none, fun X => ((), ((spec_MatrixOk.g X.1), ()))⟩
def f31G : Gm := addG (addG emptyG 64 e64) 65 e65
theorem f31GOk : GOk Try.prog f31G := ((GOk.nil).add e64ok (by kernel_rfl)).add e65ok (by kernel_rfl)
def f31lE : Clean := ⟨[], [], [], [], []⟩
def f31s0 (a : MT) : St := initSt f31sig.ps (a, ())
def f31s1 (a : Bool) : St := stOf [(2, xB a)] [] []
def f31l1 : Clean := ⟨[2], [], [], [], []⟩
def f31B : Nat → Option Clean := lookL [(1000000, f31l1)]
abbrev f31i {ρ : Type} (N : Nat) (c : Code) (p : Plan) (σ : St) (K : KT ρ) : Option ρ := iCode f31G tab f31B N c p σ K
def f31c (n : Nat) : Code := codeN 99 (bodyOf Try.f31) n
theorem f31t0 N a (K : KT ρ) : f31i N (f31c 1) .n (f31s0 a) (joinK (some f31lE) K) =
 spec_MatrixOk.Z0 N a (fun b => K .ret (f31s1 b)) := by kernel_rfl
theorem f31m (N : Nat) (a : MT) : f31i N (f31c 1) .n (f31s0 a) (joinK (some f31lE) (finK tab f31sig Try.f31.results.toList)) = spec_MatrixOk.Z0 N a (fun b => some ((), (b, ()))) :=
 (f31t0 N a (finK tab f31sig Try.f31.results.toList)).trans (by kernel_rfl)
theorem f31ok (h : spec_MatrixOk.Spec) : EntryOk Try.prog 31 e31 :=
 entry_of_code (sig := f31sig) (c := (f31c 1)) (pl := .n) (je := (some f31lE)) (B := f31B) Try.func31 (by kernel_rfl) (by kernel_rfl) (by kernel_rfl) tabOk f31GOk (by kernel_rfl) (by kernel_rfl) (by kernel_rfl) (by kernel_rfl) fun X hb hp => by
  obtain ⟨a, _⟩ := X
  obtain ⟨N, h⟩ := h a hb.1
  exact ⟨N, (f31m N a).trans (h N (Nat.le_refl N))⟩
theorem e31ok : EntryOk Try.prog 31 e31 := f31ok spec_MatrixOk.ok
end Go.Fw
namespace Go.Fw
variable {ρ : Type}
open Go.Proofs
def f39sig : Sig := ⟨[⟨.pair (.int .i64) (.pair (.int .i64) (.sl 3 (.int .i64))), true, false⟩], [⟨.bool, false, false⟩]⟩
def e39 : Entry := ⟨f39sig, none, fun X => ((), ((spec_IsAcyclic.g X.1), ()))⟩
def f39G : Gm := addG (addG emptyG 31 e31) 68 e68
theorem f39GOk : GOk Try.prog f39G := ((GOk.nil).add e31ok (by kernel_rfl)).add e68ok (by kernel_rfl)
def f39lE : Clean := ⟨[], [], [], [], []⟩
def f39s0 (a : MT) : St := initSt f39sig.ps (a, ())
def f39s1 (a b : Int) (c : LI) : St := stOf [(1, xb 1)] [(1, (47, [yi a, yi b, .sn 3 tI c none]))] []
def f39l1 : Clean := ⟨[1], [1], [], [], []⟩
def f39s2 (a : List Bool) (b c : Int) (d : LI) : St := stOf [(1, xb 1), (3, xo 1000192)] [(1, (47, [yi b, yi c, .sn 3 tI d none]))] [(1000192, (⟨4, .bool, a, true, false⟩ : Row))]
def f39l2 : Clean := ⟨[1, 3], [1], [], [], [(⟨false, 3, 0⟩, 1000192)]⟩
def f39s3 (a : List Bool) (b c d : Int) (e : LI) : St := stOf [(1, xb 1), (3, xo 1000192), (4, xi b)] [(1, (47, [yi c, yi d, .sn 3 tI e none]))] [(1000192, (⟨4, .bool, a, true, false⟩ : Row))]
def f39l3 : Clean := ⟨[1, 3, 4], [1], [], [], [(⟨false, 3, 0⟩, 1000192)]⟩
def f39s4 (a : List Bool) (b c d e : Int) (f : LI) : St := stOf [(1, xb 1), (3, xo 1000192), (4, xi b), (5, xi c)] [(1, (47, [yi d, yi e, .sn 3 tI f none]))] [(1000192, (⟨4, .bool, a, true, false⟩ : Row))]
def f39l4 : Clean := ⟨[1, 3, 4, 5], [1], [], [], [(⟨false, 3, 0⟩, 1000192)]⟩
def f39s5 (a : List Bool) (b c : Int) (d : Bool) (e f : Int) (g : LI) : St := stOf [(1, xb 1), (3, xo 1000192), (4, xi b), (5, xi c), (6, xB d)] [(1, (47, [yi e, yi f, .sn 3 tI g none]))] [(1000192, (⟨4, .bool, a, true, false⟩ : Row))]
def f39l5 : Clean := ⟨[1, 3, 4, 5, 6], [1], [], [], [(⟨false, 3, 0⟩, 1000192)]⟩
def f39s6 (a : List Bool) (b c : Int) (d : Bool) (e f g : Int) (h : LI) : St := stOf [(1, xb 1), (3, xo 1000192), (4, xi b), (5, xi c), (6, xB d), (7, xi e)] [(1, (47, [yi f, yi g, .sn 3 tI h none]))] [(1000192, (⟨4, .bool, a, true, false⟩ : Row))]
def f39l6 : Clean := ⟨[1, 3, 4, 5, 6, 7], [1], [], [], [(⟨false, 3, 0⟩, 1000192)]⟩
def f39s7 (a : List Bool) (b c d : Int) (e : LI) : St := stOf [(1, xb 1), (3, xo 1000192), (8, xi b)] [(1, (47, [yi c, yi d, .sn 3 tI e none]))] [(1000192, (⟨4, .bool, a, true, false⟩ : Row))]
def f39l7 : Clean := ⟨[1, 3, 8], [1], [], [], [(⟨false, 3, 0⟩, 1000192)]⟩
def f39s8  : St := stOf [] [] []
def f39l8 : Clean := ⟨[], [], [], [], []⟩
def f39s9 (a : Bool) : St := stOf [(2, xB a)] [] []
def f39l9 : Clean := ⟨[2], [], [], [], []⟩
def f39B : Nat → Option Clean := lookL [(4, f39l5), (3, f39l4), (2, f39l3), (1, f39l3), (0, f39l2), (6, f39l8), (1000000, f39l9)]
abbrev f39i {ρ : Type} (N : Nat) (c : Code) (p : Plan) (σ : St) (K : KT ρ) : Option ρ := iCode f39G tab f39B N c p σ K
def f39c (n : Nat) : Code := codeN 99 (bodyOf Try.f39) n
theorem f39t1 N a (K : KT ρ) : f39i N (f39c 2) .n (f39s0 a) (joinK (some f39l1) K) =
 spec_IsAcyclic.Z1 N a (fun b c d => K .nrm (f39s1 b c d)) := by kernel_rfl
theorem f39t3 N a b c (K : KT ρ) : f39i N (f39c 5) .n (f39s1 a b c) (joinK (some f39l1) K) =
 spec_IsAcyclic.Z3 N a b c (fun a b c => K .nrm (f39s1 a b c)) (fun d => K .ret (f39s9 d)) := by kernel_rfl
theorem f39t5 N a b c (K : KT ρ) : f39i N (f39c 11) .n (f39s1 a b c) (joinK (some f39l2) K) =
 spec_IsAcyclic.Z5 N a b c (fun d a b c => K .nrm (f39s2 d a b c)) := by kernel_rfl
theorem f39t8 N a b c d (K : KT ρ) : f39i N (f39c 39) .n (f39s2 a b c d) (joinK (some f39l3) K) =
 spec_IsAcyclic.Z8 N a b c d (fun a e b c d => K .nrm (f39s3 a e b c d)) := by kernel_rfl
theorem f39t12 N a e b c d (K : KT ρ) : f39i N (f39c 279) .n (f39s3 a e b c d) (joinK (some f39l3) K) =
 spec_IsAcyclic.Z12 N a e b c d (fun a e b c d => K .nrm (f39s3 a e b c d)) (fun a b c d => K (.exit 0) (f39s2 a b c d)) := by kernel_rfl
theorem f39t16 N a b c d e (K : KT ρ) : f39i N (f39c 2199) .n (f39s3 a b c d e) (joinK (some f39l4) K) =
 spec_IsAcyclic.Z16 N a b c d e (fun a b f c d e => K .nrm (f39s4 a b f c d e)) := by kernel_rfl
theorem f39t20 N a b f c d e (K : KT ρ) : f39i N (f39c 17559) .n (f39s4 a b f c d e) (joinK (some f39l4) K) =
 spec_IsAcyclic.Z20 N a b f c d e (fun a b f c d e => K .nrm (f39s4 a b f c d e)) (fun a b c d e => K (.exit 2) (f39s3 a b c d e)) := by kernel_rfl
theorem f39t24 N a b c d e f (K : KT ρ) : f39i N (f39c 140439) .n (f39s4 a b c d e f) (joinK (some f39l5) K) =
 spec_IsAcyclic.Z24 N a b c d e f (fun a b c g d e f => K .nrm (f39s5 a b c g d e f)) := by kernel_rfl
theorem f39t27 N a b c d e f g (K : KT ρ) : f39i N (f39c 599191) .n (f39s5 a b c d e f g) (joinK (some f39l6) K) =
 spec_IsAcyclic.Z27 N a b c d e f g (fun a b c d h e f g => K .nrm (f39s6 a b c d h e f g)) := by kernel_rfl
theorem f39t30 N a b c d h e f g (K : KT ρ) : f39i N (f39c 2434199) .n (f39s6 a b c d h e f g) (joinK (some f39l6) K) =
 spec_IsAcyclic.Z30 N a b c d h e f g (fun a b c d h e f g => K .nrm (f39s6 a b c d h e f g)) (fun a b c d e f g => K (.exit 4) (f39s5 a b c d e f g)) := by kernel_rfl
def f39p29 : Plan := .mk none (some f39l6) .n .n
abbrev f39w29 {ρ : Type} (N M : Nat) (σ : St) (K : KT ρ) : Option ρ := loopC (fun σ K => f39i N (f39c 2434199) .n σ K) f39l6 M σ K
theorem f39t29L {ρ : Type} (N : Nat) (K : KT ρ) : ∀ (M : Nat) (a : List Bool) (b c : Int) (d : Bool) (h e f : Int) (g : LI), f39w29 N M (f39s6 a b c d h e f g) K =
 spec_IsAcyclic.Z29L N (fun a b c d e f g => K (.exit 4) (f39s5 a b c d e f g)) M a b c d h e f g
 | 0, _, _, _, _, _, _, _, _ => rfl
 | M + 1, a, b, c, d, h, e, f, g => viaRoundS (fun k => spec_IsAcyclic.Z30 N a b c d h e f g k (fun a b c d e f g => K (.exit 4) (f39s5 a b c d e f g))) (f39t30 N (K := seqK (fun σ => f39w29 N M σ K) K) ..) (fx8 fun a b c d h e f g => f39t29L N K M a b c d h e f g) (by kernel_rfl)
theorem f39t29 N a b c d h e f g (K : KT ρ) : f39i N (f39c 1385623) f39p29 (f39s6 a b c d h e f g) (joinK (some f39l5) K) =
  spec_IsAcyclic.Z29 N a b c d h e f g (fun a b c d e f g => K (.exit 4) (f39s5 a b c d e f g)) :=
 viaLoopS (by kernel_rfl) (f39t29L N (joinK (some f39l5) K) N a b c d h e f g) (by kernel_rfl)
def f39p28 : Plan := .mk (some f39l5) none f39p29 .n
theorem f39t28 N a b c d h e f g (K : KT ρ) : f39i N (f39c 861335) f39p28 (f39s6 a b c d h e f g) (joinK (some f39l5) K) =
  spec_IsAcyclic.Z28 N a b c d h e f g (fun a b c d e f g => K .nrm (f39s5 a b c d e f g)) :=
 viaBlockS (by kernel_rfl) (f39t29 N (K := blockK 4 (joinK (some f39l5) K)) ..) (by kernel_rfl)
def f39p26 : Plan := .mk (some f39l6) none .n f39p28
theorem f39t26 N a b c d e f g (K : KT ρ) : f39i N (f39c 337047) f39p26 (f39s5 a b c d e f g) (joinK (some f39l5) K) =
  spec_IsAcyclic.Z26 N a b c d e f g (fun a b c d e f g => K .nrm (f39s5 a b c d e f g)) :=
 viaSeqS (fun k => spec_IsAcyclic.Z27 N a b c d e f g k) (by kernel_rfl) (f39t27 N (K := seqK (fun σ => f39i N (f39c 861335) f39p28 σ (joinK (some f39l5) K)) (joinK (some f39l5) K)) ..) (fx8 fun a b c d h e f g => f39t28 N a b c d h e f g K) (by kernel_rfl)
theorem f39t31 N a b c g d e f (K : KT ρ) : f39i N (f39c 468119) .n (f39s5 a b c g d e f) (joinK (some f39l4) K) =
 spec_IsAcyclic.Z31 N a b c g d e f (fun a b c d e f => K .nrm (f39s4 a b c d e f)) := by kernel_rfl
def f39p25 : Plan := .mk (some f39l5) none f39p26 .n
theorem f39t25 N a b c g d e f (K : KT ρ) : f39i N (f39c 205975) f39p25 (f39s5 a b c g d e f) (joinK (some f39l4) K) =
  spec_IsAcyclic.Z25 N a b c g d e f (fun a b c d e f => K .nrm (f39s4 a b c d e f)) :=
 viaSeqS (fun k => spec_IsAcyclic.Z26 N a b c g d e f k) (by kernel_rfl) (f39t26 N (K := seqK (fun σ => f39i N (f39c 468119) .n σ (joinK (some f39l4) K)) (joinK (some f39l4) K)) ..) (fx7 fun a b c g d e f => f39t31 N a b c g d e f K) (by kernel_rfl)
def f39p23 : Plan := .mk (some f39l5) none .n f39p25
theorem f39t23 N a b c d e f (K : KT ρ) : f39i N (f39c 74903) f39p23 (f39s4 a b c d e f) (joinK (some f39l4) K) =
  spec_IsAcyclic.Z23 N a b c d e f (fun a b c d e f => K .nrm (f39s4 a b c d e f)) :=
 viaSeqS (fun k => spec_IsAcyclic.Z24 N a b c d e f k) (by kernel_rfl) (f39t24 N (K := seqK (fun σ => f39i N (f39c 205975) f39p25 σ (joinK (some f39l4) K)) (joinK (some f39l4) K)) ..) (fx7 fun a b c g d e f => f39t25 N a b c g d e f K) (by kernel_rfl)
def f39p22 : Plan := .mk (some f39l4) none f39p23 .n
theorem f39t22 N a b c d e f (K : KT ρ) : f39i N (f39c 42135) f39p22 (f39s4 a b c d e f) (joinK (some f39l4) K) =
  spec_IsAcyclic.Z22 N a b c d e f (fun a b c d e f => K .nrm (f39s4 a b c d e f)) :=
 viaBlockS (by kernel_rfl) (f39t23 N (K := blockK 3 (joinK (some f39l4) K)) ..) (by kernel_rfl)
theorem f39t32 N a b c d e f (K : KT ρ) : f39i N (f39c 58519) .n (f39s4 a b c d e f) (joinK (some f39l4) K) =
 spec_IsAcyclic.Z32 N a b c d e f (fun a b c d e f => K .nrm (f39s4 a b c d e f)) := by kernel_rfl
def f39p21 : Plan := .mk (some f39l4) none f39p22 .n
theorem f39t21 N a b c d e f (K : KT ρ) : f39i N (f39c 25751) f39p21 (f39s4 a b c d e f) (joinK (some f39l4) K) =
  spec_IsAcyclic.Z21 N a b c d e f (fun a b c d e f => K .nrm (f39s4 a b c d e f)) :=
 viaSeqS (fun k => spec_IsAcyclic.Z22 N a b c d e f k) (by kernel_rfl) (f39t22 N (K := seqK (fun σ => f39i N (f39c 58519) .n σ (joinK (some f39l4) K)) (joinK (some f39l4) K)) ..) (fx6 fun a b c d e f => f39t32 N a b c d e f K) (by kernel_rfl)
def f39p19 : Plan := .mk (some f39l4) none .n f39p21
theorem f39t19 N a b f c d e (K : KT ρ) : f39i N (f39c 9367) f39p19 (f39s4 a b f c d e) (joinK (some f39l4) K) =
  spec_IsAcyclic.Z19 N a b f c d e (fun a b f c d e => K .nrm (f39s4 a b f c d e)) (fun a b c d e => K (.exit 2) (f39s3 a b c d e)) :=
 viaSeqS (fun k => spec_IsAcyclic.Z20 N a b f c d e k (fun a b c d e => K (.exit 2) (f39s3 a b c d e))) (by kernel_rfl) (f39t20 N (K := seqK (fun σ => f39i N (f39c 25751) f39p21 σ (joinK (some f39l4) K)) (joinK (some f39l4) K)) ..) (fx6 fun a b f c d e => f39t21 N a b f c d e K) (by kernel_rfl)
def f39p18 : Plan := .mk none (some f39l4) f39p19 .n
abbrev f39w18 {ρ : Type} (N M : Nat) (σ : St) (K : KT ρ) : Option ρ := loopC (fun σ K => f39i N (f39c 9367) f39p19 σ K) f39l4 M σ K
theorem f39t18L {ρ : Type} (N : Nat) (K : KT ρ) : ∀ (M : Nat) (a : List Bool) (b f c d : Int) (e : LI), f39w18 N M (f39s4 a b f c d e) K =
 spec_IsAcyclic.Z18L N (fun a b c d e => K (.exit 2) (f39s3 a b c d e)) M a b f c d e
 | 0, _, _, _, _, _, _ => rfl
 | M + 1, a, b, f, c, d, e => viaRoundS (fun k => spec_IsAcyclic.Z19 N a b f c d e k (fun a b c d e => K (.exit 2) (f39s3 a b c d e))) (f39t19 N (K := seqK (fun σ => f39w18 N M σ K) K) ..) (fx6 fun a b f c d e => f39t18L N K M a b f c d e) (by kernel_rfl)
theorem f39t18 N a b f c d e (K : KT ρ) : f39i N (f39c 5271) f39p18 (f39s4 a b f c d e) (joinK (some f39l3) K) =
  spec_IsAcyclic.Z18 N a b f c d e (fun a b c d e => K (.exit 2) (f39s3 a b c d e)) :=
 viaLoopS (by kernel_rfl) (f39t18L N (joinK (some f39l3) K) N a b f c d e) (by kernel_rfl)
def f39p17 : Plan := .mk (some f39l3) none f39p18 .n
theorem f39t17 N a b f c d e (K : KT ρ) : f39i N (f39c 3223) f39p17 (f39s4 a b f c d e) (joinK (some f39l3) K) =
  spec_IsAcyclic.Z17 N a b f c d e (fun a b c d e => K .nrm (f39s3 a b c d e)) :=
 viaBlockS (by kernel_rfl) (f39t18 N (K := blockK 2 (joinK (some f39l3) K)) ..) (by kernel_rfl)
def f39p15 : Plan := .mk (some f39l4) none .n f39p17
theorem f39t15 N a b c d e (K : KT ρ) : f39i N (f39c 1175) f39p15 (f39s3 a b c d e) (joinK (some f39l3) K) =
  spec_IsAcyclic.Z15 N a b c d e (fun a b c d e => K .nrm (f39s3 a b c d e)) :=
 viaSeqS (fun k => spec_IsAcyclic.Z16 N a b c d e k) (by kernel_rfl) (f39t16 N (K := seqK (fun σ => f39i N (f39c 3223) f39p17 σ (joinK (some f39l3) K)) (joinK (some f39l3) K)) ..) (fx6 fun a b f c d e => f39t17 N a b f c d e K) (by kernel_rfl)
def f39p14 : Plan := .mk (some f39l3) none f39p15 .n
theorem f39t14 N a b c d e (K : KT ρ) : f39i N (f39c 663) f39p14 (f39s3 a b c d e) (joinK (some f39l3) K) =
  spec_IsAcyclic.Z14 N a b c d e (fun a b c d e => K .nrm (f39s3 a b c d e)) :=
 viaBlockS (by kernel_rfl) (f39t15 N (K := blockK 1 (joinK (some f39l3) K)) ..) (by kernel_rfl)
theorem f39t33 N a b c d e (K : KT ρ) : f39i N (f39c 919) .n (f39s3 a b c d e) (joinK (some f39l3) K) =
 spec_IsAcyclic.Z33 N a b c d e (fun a b c d e => K .nrm (f39s3 a b c d e)) := by kernel_rfl
def f39p13 : Plan := .mk (some f39l3) none f39p14 .n
theorem f39t13 N a b c d e (K : KT ρ) : f39i N (f39c 407) f39p13 (f39s3 a b c d e) (joinK (some f39l3) K) =
  spec_IsAcyclic.Z13 N a b c d e (fun a b c d e => K .nrm (f39s3 a b c d e)) :=
 viaSeqS (fun k => spec_IsAcyclic.Z14 N a b c d e k) (by kernel_rfl) (f39t14 N (K := seqK (fun σ => f39i N (f39c 919) .n σ (joinK (some f39l3) K)) (joinK (some f39l3) K)) ..) (fx5 fun a b c d e => f39t33 N a b c d e K) (by kernel_rfl)
def f39p11 : Plan := .mk (some f39l3) none .n f39p13
theorem f39t11 N a e b c d (K : KT ρ) : f39i N (f39c 151) f39p11 (f39s3 a e b c d) (joinK (some f39l3) K) =
  spec_IsAcyclic.Z11 N a e b c d (fun a e b c d => K .nrm (f39s3 a e b c d)) (fun a b c d => K (.exit 0) (f39s2 a b c d)) :=
 viaSeqS (fun k => spec_IsAcyclic.Z12 N a e b c d k (fun a b c d => K (.exit 0) (f39s2 a b c d))) (by kernel_rfl) (f39t12 N (K := seqK (fun σ => f39i N (f39c 407) f39p13 σ (joinK (some f39l3) K)) (joinK (some f39l3) K)) ..) (fx5 fun a e b c d => f39t13 N a e b c d K) (by kernel_rfl)
def f39p10 : Plan := .mk none (some f39l3) f39p11 .n
abbrev f39w10 {ρ : Type} (N M : Nat) (σ : St) (K : KT ρ) : Option ρ := loopC (fun σ K => f39i N (f39c 151) f39p11 σ K) f39l3 M σ K
theorem f39t10L {ρ : Type} (N : Nat) (K : KT ρ) : ∀ (M : Nat) (a : List Bool) (e b c : Int) (d : LI), f39w10 N M (f39s3 a e b c d) K =
 spec_IsAcyclic.Z10L N (fun a b c d => K (.exit 0) (f39s2 a b c d)) M a e b c d
 | 0, _, _, _, _, _ => rfl
 | M + 1, a, e, b, c, d => viaRoundS (fun k => spec_IsAcyclic.Z11 N a e b c d k (fun a b c d => K (.exit 0) (f39s2 a b c d))) (f39t11 N (K := seqK (fun σ => f39w10 N M σ K) K) ..) (fx5 fun a e b c d => f39t10L N K M a e b c d) (by kernel_rfl)
theorem f39t10 N a e b c d (K : KT ρ) : f39i N (f39c 87) f39p10 (f39s3 a e b c d) (joinK (some f39l2) K) =
  spec_IsAcyclic.Z10 N a e b c d (fun a b c d => K (.exit 0) (f39s2 a b c d)) :=
 viaLoopS (by kernel_rfl) (f39t10L N (joinK (some f39l2) K) N a e b c d) (by kernel_rfl)
def f39p9 : Plan := .mk (some f39l2) none f39p10 .n
theorem f39t9 N a e b c d (K : KT ρ) : f39i N (f39c 55) f39p9 (f39s3 a e b c d) (joinK (some f39l2) K) =
  spec_IsAcyclic.Z9 N a e b c d (fun a b c d => K .nrm (f39s2 a b c d)) :=
 viaBlockS (by kernel_rfl) (f39t10 N (K := blockK 0 (joinK (some f39l2) K)) ..) (by kernel_rfl)
def f39p7 : Plan := .mk (some f39l3) none .n f39p9
theorem f39t7 N a b c d (K : KT ρ) : f39i N (f39c 23) f39p7 (f39s2 a b c d) (joinK (some f39l2) K) =
  spec_IsAcyclic.Z7 N a b c d (fun a b c d => K .nrm (f39s2 a b c d)) :=
 viaSeqS (fun k => spec_IsAcyclic.Z8 N a b c d k) (by kernel_rfl) (f39t8 N (K := seqK (fun σ => f39i N (f39c 55) f39p9 σ (joinK (some f39l2) K)) (joinK (some f39l2) K)) ..) (fx5 fun a e b c d => f39t9 N a e b c d K) (by kernel_rfl)
theorem f39t36 N a b c d (K : KT ρ) : f39i N (f39c 79) .n (f39s2 a b c d) (joinK (some f39l7) K) =
 spec_IsAcyclic.Z36 N a b c d (fun a e b c d => K .nrm (f39s7 a e b c d)) := by kernel_rfl
theorem f39t39 N a b c d e (K : KT ρ) : f39i N (f39c 303) .n (f39s7 a b c d e) (joinK (some f39l7) K) =
 spec_IsAcyclic.Z39 N a b c d e (fun a b c d e => K .nrm (f39s7 a b c d e)) (K (.exit 6) f39s8) (fun f => K .ret (f39s9 f)) := by kernel_rfl
def f39p38 : Plan := .mk none (some f39l7) .n .n
abbrev f39w38 {ρ : Type} (N M : Nat) (σ : St) (K : KT ρ) : Option ρ := loopC (fun σ K => f39i N (f39c 303) .n σ K) f39l7 M σ K
theorem f39t38L {ρ : Type} (N : Nat) (K : KT ρ) : ∀ (M : Nat) (a : List Bool) (b c d : Int) (e : LI), f39w38 N M (f39s7 a b c d e) K =
 spec_IsAcyclic.Z38L N (K (.exit 6) f39s8) (fun f => K .ret (f39s9 f)) M a b c d e
 | 0, _, _, _, _, _ => rfl
 | M + 1, a, b, c, d, e => viaRoundS (fun k => spec_IsAcyclic.Z39 N a b c d e k (K (.exit 6) f39s8) (fun f => K .ret (f39s9 f))) (f39t39 N (K := seqK (fun σ => f39w38 N M σ K) K) ..) (fx5 fun a b c d e => f39t38L N K M a b c d e) (by kernel_rfl)
theorem f39t38 N a b c d e (K : KT ρ) : f39i N (f39c 175) f39p38 (f39s7 a b c d e) (joinK (some f39l8) K) =
  spec_IsAcyclic.Z38 N a b c d e (K (.exit 6) f39s8) (fun f => K .ret (f39s9 f)) :=
 viaLoopS (by kernel_rfl) (f39t38L N (joinK (some f39l8) K) N a b c d e) (by kernel_rfl)
def f39p37 : Plan := .mk (some f39l8) none f39p38 .n
theorem f39t37 N a b c d e (K : KT ρ) : f39i N (f39c 111) f39p37 (f39s7 a b c d e) (joinK (some f39l8) K) =
  spec_IsAcyclic.Z37 N a b c d e (K .nrm f39s8) (fun f => K .ret (f39s9 f)) :=
 viaBlockS (by kernel_rfl) (f39t38 N (K := blockK 6 (joinK (some f39l8) K)) ..) (by kernel_rfl)
def f39p35 : Plan := .mk (some f39l7) none .n f39p37
theorem f39t35 N a b c d (K : KT ρ) : f39i N (f39c 47) f39p35 (f39s2 a b c d) (joinK (some f39l8) K) =
  spec_IsAcyclic.Z35 N a b c d (K .nrm f39s8) (fun e => K .ret (f39s9 e)) :=
 viaSeqS (fun k => spec_IsAcyclic.Z36 N a b c d k) (by kernel_rfl) (f39t36 N (K := seqK (fun σ => f39i N (f39c 111) f39p37 σ (joinK (some f39l8) K)) (joinK (some f39l8) K)) ..) (fx5 fun a f b c d => f39t37 N a f b c d K) (by kernel_rfl)
theorem f39t40 N  (K : KT ρ) : f39i N (f39c 63) .n f39s8 (joinK (some f39lE) K) =
 spec_IsAcyclic.Z40 N (fun a => K .ret (f39s9 a)) := by kernel_rfl
def f39p34 : Plan := .mk (some f39l8) none f39p35 .n
theorem f39t34 N a b c d (K : KT ρ) : f39i N (f39c 31) f39p34 (f39s2 a b c d) (joinK (some f39lE) K) =
  spec_IsAcyclic.Z34 N a b c d (fun e => K .ret (f39s9 e)) :=
 viaSeqS (fun k => spec_IsAcyclic.Z35 N a b c d k (fun e => K .ret (f39s9 e))) (by kernel_rfl) (f39t35 N (K := seqK (fun σ => f39i N (f39c 63) .n σ (joinK (some f39lE) K)) (joinK (some f39lE) K)) ..) (f39t40 N K) (by kernel_rfl)
def f39p6 : Plan := .mk (some f39l2) none f39p7 f39p34
theorem f39t6 N a b c d (K : KT ρ) : f39i N (f39c 15) f39p6 (f39s2 a b c d) (joinK (some f39lE) K) =
  spec_IsAcyclic.Z6 N a b c d (fun e => K .ret (f39s9 e)) :=
 viaSeqS (fun k => spec_IsAcyclic.Z7 N a b c d k) (by kernel_rfl) (f39t7 N (K := seqK (fun σ => f39i N (f39c 31) f39p34 σ (joinK (some f39lE) K)) (joinK (some f39lE) K)) ..) (fx4 fun a b c d => f39t34 N a b c d K) (by kernel_rfl)
def f39p4 : Plan := .mk (some f39l2) none .n f39p6
theorem f39t4 N a b c (K : KT ρ) : f39i N (f39c 7) f39p4 (f39s1 a b c) (joinK (some f39lE) K) =
  spec_IsAcyclic.Z4 N a b c (fun d => K .ret (f39s9 d)) :=
 viaSeqS (fun k => spec_IsAcyclic.Z5 N a b c k) (by kernel_rfl) (f39t5 N (K := seqK (fun σ => f39i N (f39c 15) f39p6 σ (joinK (some f39lE) K)) (joinK (some f39lE) K)) ..) (fx4 fun e a b c => f39t6 N e a b c K) (by kernel_rfl)
def f39p2 : Plan := .mk (some f39l1) none .n f39p4
theorem f39t2 N a b c (K : KT ρ) : f39i N (f39c 3) f39p2 (f39s1 a b c) (joinK (some f39lE) K) =
  spec_IsAcyclic.Z2 N a b c (fun d => K .ret (f39s9 d)) :=
 viaSeqS (fun k => spec_IsAcyclic.Z3 N a b c k (fun d => K .ret (f39s9 d))) (by kernel_rfl) (f39t3 N (K := seqK (fun σ => f39i N (f39c 7) f39p4 σ (joinK (some f39lE) K)) (joinK (some f39lE) K)) ..) (fx3 fun a b c => f39t4 N a b c K) (by kernel_rfl)
def f39p0 : Plan := .mk (some f39l1) none .n f39p2
theorem f39t0 N a (K : KT ρ) : f39i N (f39c 1) f39p0 (f39s0 a) (joinK (some f39lE) K) =
  spec_IsAcyclic.Z0 N a (fun b => K .ret (f39s9 b)) :=
 viaSeqS (fun k => spec_IsAcyclic.Z1 N a k) (by kernel_rfl) (f39t1 N (K := seqK (fun σ => f39i N (f39c 3) f39p2 σ (joinK (some f39lE) K)) (joinK (some f39lE) K)) ..) (fx3 fun c d e => f39t2 N c d e K) (by kernel_rfl)
theorem f39m (N : Nat) (a : MT) : f39i N (f39c 1) f39p0 (f39s0 a) (joinK (some f39lE) (finK tab f39sig Try.f39.results.toList)) = spec_IsAcyclic.Z0 N a (fun b => some ((), (b, ()))) :=
 (f39t0 N a (finK tab f39sig Try.f39.results.toList)).trans (by kernel_rfl)
theorem f39ok (h : spec_IsAcyclic.Spec) : EntryOk Try.prog 39 e39 :=
 entry_of_code (sig := f39sig) (c := (f39c 1)) (pl := f39p0) (je := (some f39lE)) (B := f39B) Try.func39 (by kernel_rfl) (by kernel_rfl) (by kernel_rfl) tabOk f39GOk (by kernel_rfl) (by kernel_rfl) (by kernel_rfl) (by kernel_rfl) fun X hb hp => by
  obtain ⟨a, _⟩ := X
  obtain ⟨N, h⟩ := h a hb.1
  exact ⟨N, (f39m N a).trans (h N (Nat.le_refl N))⟩
theorem e39ok : EntryOk Try.prog 39 e39 := f39ok spec_IsAcyclic.ok
end Go.Fw
namespace Go.Fw
variable {ρ : Type}
open Go.Proofs
def f49sig : Sig := ⟨[⟨.int .i64, false, false⟩, ⟨.int .i64, false, false⟩, ⟨.int .i64, false, false⟩], [⟨.bool, false, false⟩]⟩
def e49 : Entry := ⟨f49sig, none, fun X => ((), ((impl_within.g X.1 X.2.1 X.2.2.1), ()))⟩
def f49G : Gm := emptyG
theorem f49GOk : GOk Try.prog f49G := GOk.nil
def f49lE : Clean := ⟨[], [], [], [], []⟩
def f49s0 (a b c : Int) : St := initSt f49sig.ps (a, (b, (c, ())))
def f49s1 (a : Bool) : St := stOf [(6, xB a)] [] []
def f49l1 : Clean := ⟨[6], [], [], [], []⟩
def f49B : Nat → Option Clean := lookL [(1000000, f49l1)]
abbrev f49i {ρ : Type} (N : Nat) (c : Code) (p : Plan) (σ : St) (K : KT ρ) : Option ρ := iCode f49G tab f49B N c p σ K
def f49c (n : Nat) : Code := codeN 99 (bodyOf Try.f49) n
theorem f49t0 N a b c (K : KT ρ) : f49i N (f49c 1) .n (f49s0 a b c) (joinK (some f49lE) K) =
 impl_within.Z0 N a b c (fun d => K .ret (f49s1 d)) := by kernel_rfl
theorem f49m (N : Nat) (a b c : Int) : f49i N (f49c 1) .n (f49s0 a b c) (joinK (some f49lE) (finK tab f49sig Try.f49.results.toList)) = impl_within.Z0 N a b c (fun d => some ((), (d, ()))) :=
 (f49t0 N a b c (finK tab f49sig Try.f49.results.toList)).trans (by kernel_rfl)
theorem f49ok (h : impl_within.Spec) : EntryOk Try.prog 49 e49 :=
 entry_of_code (sig := f49sig) (c := (f49c 1)) (pl := .n) (je := (some f49lE)) (B := f49B) Try.func49 (by kernel_rfl) (by kernel_rfl) (by kernel_rfl) tabOk f49GOk (by kernel_rfl) (by kernel_rfl) (by kernel_rfl) (by kernel_rfl) fun X hb hp => by
  obtain ⟨a, b, d, _⟩ := X
  obtain ⟨N, h⟩ := h a b d
  exact ⟨N, (f49m N a b d).trans (h N (Nat.le_refl N))⟩
theorem e49ok : EntryOk Try.prog 49 e49 := f49ok impl_within.ok
end Go.Fw
namespace Go.Fw
variable {ρ : Type}
open Go.Proofs
def f88sig : Sig := ⟨[⟨.int .i64, false, false⟩], [⟨.bool, false, false⟩]⟩
def e88 : Entry := ⟨f88sig, none, fun X => ((), ((impl_shaped_1.g X.1), ()))⟩
def f88G : Gm := addG emptyG 49 e49
theorem f88GOk : GOk Try.prog f88G := (GOk.nil).add e49ok (by kernel_rfl)
def f88lE : Clean := ⟨[], [], [], [], []⟩
def f88s0 (a : Int) : St := initSt f88sig.ps (a, ())
def f88s1 (a : Bool) : St := stOf [(2, xB a)] [] []
def f88l1 : Clean := ⟨[2], [], [], [], []⟩
def f88B : Nat → Option Clean := lookL [(1000000, f88l1)]
abbrev f88i {ρ : Type} (N : Nat) (c : Code) (p : Plan) (σ : St) (K : KT ρ) : Option ρ := iCode f88G tab f88B N c p σ K
def f88c (n : Nat) : Code := codeN 99 (bodyOf Try.f88) n
theorem f88t0 N a (K : KT ρ) : f88i N (f88c 1) .n (f88s0 a) (joinK (some f88lE) K) =
 impl_shaped_1.Z0 N a (fun b => K .ret (f88s1 b)) := by kernel_rfl
theorem f88m (N : Nat) (a : Int) : f88i N (f88c 1) .n (f88s0 a) (joinK (some f88lE) (finK tab f88sig Try.f88.results.toList)) = impl_shaped_1.Z0 N a (fun b => some ((), (b, ()))) :=
 (f88t0 N a (finK tab f88sig Try.f88.results.toList)).trans (by kernel_rfl)
theorem f88ok (h : impl_shaped_1.Spec) : EntryOk Try.prog 88 e88 :=
 entry_of_code (sig := f88sig) (c := (f88c 1)) (pl := .n) (je := (some f88lE)) (B := f88B) Try.func88 (by kernel_rfl) (by kernel_rfl) (by kernel_rfl) tabOk f88GOk (by kernel_rfl) (by kernel_rfl) (by kernel_rfl) (by kernel_rfl) fun X hb hp => by
  obtain ⟨a, _⟩ := X
  obtain ⟨N, h⟩ := h a
  exact ⟨N, (f88m N a).trans (h N (Nat.le_refl N))⟩
theorem e88ok : EntryOk Try.prog 88 e88 := f88ok impl_shaped_1.ok
end Go.Fw
namespace Go.Fw
variable {ρ : Type}
open Go.Proofs
def f90bsig : Sig := ⟨[⟨.sl 3 (.int .i64), false, false⟩, ⟨.fnc 88, false, false⟩], [⟨.int .i64, false, false⟩]⟩
def e90b : Entry := ⟨f90bsig, none, fun X => ((), ((slices_IndexFunc_int_int_shaped.g X.1 X.2.1), ()))⟩
def f90bG : Gm := addG emptyG 88 e88
theorem f90bGOk : GOk Try.prog f90bG := (GOk.nil).add e88ok (by kernel_rfl)
def f90blE : Clean := ⟨[], [], [], [], []⟩
def f90bs0 (a : LI) (b : Unit) : St := initSt f90bsig.ps (a, (b, ()))
def f90bs1 (a : LI) : St := stOf [(0, .c (.sn 3 tI a none)), (1, .c (.fn 88 []))] [] []
def f90bl1 : Clean := ⟨[0, 1], [], [], [], []⟩
def f90bs2 (a : LI) (b d : Int) : St := stOf [(0, .c (.sn 3 tI a none)), (1, .c (.fn 88 [])), (7, xi b), (8, xi d)] [] []
def f90bl2 : Clean := ⟨[0, 1, 7, 8], [], [], [], []⟩
def f90bs3  : St := stOf [] [] []
def f90bl3 : Clean := ⟨[], [], [], [], []⟩
def f90bs4 (a : Int) : St := stOf [(4, xi a)] [] []
def f90bl4 : Clean := ⟨[4], [], [], [], []⟩
def f90bB : Nat → Option Clean := lookL [(0, f90bl3), (1000000, f90bl4)]
abbrev f90bi {ρ : Type} (N : Nat) (c : Code) (p : Plan) (σ : St) (K : KT ρ) : Option ρ := iCode f90bG tab f90bB N c p σ K
def f90bc (n : Nat) : Code := codeN 99 (bodyOf Try.f90) n
theorem f90bt1 N a b (K : KT ρ) : f90bi N (f90bc 2) .n (f90bs0 a b) (joinK (some f90bl1) K) =
 slices_IndexFunc_int_int_shaped.Z1 N a b (fun a => K .nrm (f90bs1 a)) := by kernel_rfl
theorem f90bt4 N a (K : KT ρ) : f90bi N (f90bc 9) .n (f90bs1 a) (joinK (some f90bl2) K) =
 slices_IndexFunc_int_int_shaped.Z4 N a (fun a b c => K .nrm (f90bs2 a b c)) := by kernel_rfl
theorem f90bt7 N a b c (K : KT ρ) : f90bi N (f90bc 37) .n (f90bs2 a b c) (joinK (some f90bl2) K) =
 slices_IndexFunc_int_int_shaped.Z7 N a b c (fun a b c => K .nrm (f90bs2 a b c)) (K (.exit 0) f90bs3) (fun d => K .ret (f90bs4 d)) := by kernel_rfl
def f90bp6 : Plan := .mk none (some f90bl2) .n .n
abbrev f90bw6 {ρ : Type} (N M : Nat) (σ : St) (K : KT ρ) : Option ρ := loopC (fun σ K => f90bi N (f90bc 37) .n σ K) f90bl2 M σ K
theorem f90bt6L {ρ : Type} (N : Nat) (K : KT ρ) : ∀ (M : Nat) (a : LI) (b c : Int), f90bw6 N M (f90bs2 a b c) K =
 slices_IndexFunc_int_int_shaped.Z6L N (K (.exit 0) f90bs3) (fun d => K .ret (f90bs4 d)) M a b c
 | 0, _, _, _ => rfl
 | M + 1, a, b, c => viaRoundS (fun k => slices_IndexFunc_int_int_shaped.Z7 N a b c k (K (.exit 0) f90bs3) (fun d => K .ret (f90bs4 d))) (f90bt7 N (K := seqK (fun σ => f90bw6 N M σ K) K) ..) (fx3 fun a b c => f90bt6L N K M a b c) (by kernel_rfl)
theorem f90bt6 N a b c (K : KT ρ) : f90bi N (f90bc 21) f90bp6 (f90bs2 a b c) (joinK (some f90bl3) K) =
  slices_IndexFunc_int_int_shaped.Z6 N a b c (K (.exit 0) f90bs3) (fun d => K .ret (f90bs4 d)) :=
 viaLoopS (by kernel_rfl) (f90bt6L N (joinK (some f90bl3) K) N a b c) (by kernel_rfl)
def f90bp5 : Plan := .mk (some f90bl3) none f90bp6 .n
theorem f90bt5 N a b c (K : KT ρ) : f90bi N (f90bc 13) f90bp5 (f90bs2 a b c) (joinK (some f90bl3) K) =
  slices_IndexFunc_int_int_shaped.Z5 N a b c (K .nrm f90bs3) (fun d => K .ret (f90bs4 d)) :=
 viaBlockS (by kernel_rfl) (f90bt6 N (K := blockK 0 (joinK (some f90bl3) K)) ..) (by kernel_rfl)
def f90bp3 : Plan := .mk (some f90bl2) none .n f90bp5
theorem f90bt3 N a (K : KT ρ) : f90bi N (f90bc 5) f90bp3 (f90bs1 a) (joinK (some f90bl3) K) =
  slices_IndexFunc_int_int_shaped.Z3 N a (K .nrm f90bs3) (fun b => K .ret (f90bs4 b)) :=
 viaSeqS (fun k => slices_IndexFunc_int_int_shaped.Z4 N a k) (by kernel_rfl) (f90bt4 N (K := seqK (fun σ => f90bi N (f90bc 13) f90bp5 σ (joinK (some f90bl3) K)) (joinK (some f90bl3) K)) ..) (fx3 fun a c d => f90bt5 N a c d K) (by kernel_rfl)
theorem f90bt8 N  (K : KT ρ) : f90bi N (f90bc 7) .n f90bs3 (joinK (some f90blE) K) =
 slices_IndexFunc_int_int_shaped.Z8 N (fun a => K .ret (f90bs4 a)) := by kernel_rfl
def f90bp2 : Plan := .mk (some f90bl3) none f90bp3 .n
theorem f90bt2 N a (K : KT ρ) : f90bi N (f90bc 3) f90bp2 (f90bs1 a) (joinK (some f90blE) K) =
  slices_IndexFunc_int_int_shaped.Z2 N a (fun b => K .ret (f90bs4 b)) :=
 viaSeqS (fun k => slices_IndexFunc_int_int_shaped.Z3 N a k (fun b => K .ret (f90bs4 b))) (by kernel_rfl) (f90bt3 N (K := seqK (fun σ => f90bi N (f90bc 7) .n σ (joinK (some f90blE) K)) (joinK (some f90blE) K)) ..) (f90bt8 N K) (by kernel_rfl)
def f90bp0 : Plan := .mk (some f90bl1) none .n f90bp2
theorem f90bt0 N a b (K : KT ρ) : f90bi N (f90bc 1) f90bp0 (f90bs0 a b) (joinK (some f90blE) K) =
  slices_IndexFunc_int_int_shaped.Z0 N a b (fun c => K .ret (f90bs4 c)) :=
 viaSeqS (fun k => slices_IndexFunc_int_int_shaped.Z1 N a b k) (by kernel_rfl) (f90bt1 N (K := seqK (fun σ => f90bi N (f90bc 3) f90bp2 σ (joinK (some f90blE) K)) (joinK (some f90blE) K)) ..) (funext fun a => f90bt2 N a K) (by kernel_rfl)
theorem f90bm (N : Nat) (a : LI) (b : Unit) : f90bi N (f90bc 1) f90bp0 (f90bs0 a b) (joinK (some f90blE) (finK tab f90bsig Try.f90.results.toList)) = slices_IndexFunc_int_int_shaped.Z0 N a b (fun c => some ((), (c, ()))) :=
 (f90bt0 N a b (finK tab f90bsig Try.f90.results.toList)).trans (by kernel_rfl)
theorem f90bok (h : slices_IndexFunc_int_int_shaped.Spec) : EntryOk Try.prog 90 e90b :=
 entry_of_code (sig := f90bsig) (c := (f90bc 1)) (pl := f90bp0) (je := (some f90blE)) (B := f90bB) Try.func90 (by kernel_rfl) (by kernel_rfl) (by kernel_rfl) tabOk f90bGOk (by kernel_rfl) (by kernel_rfl) (by kernel_rfl) (by kernel_rfl) fun X hb hp => by
  obtain ⟨a, b, _⟩ := X
  obtain ⟨N, h⟩ := h a b hb.1
  exact ⟨N, (f90bm N a b).trans (h N (Nat.le_refl N))⟩
theorem e90bok : EntryOk Try.prog 90 e90b := f90bok slices_IndexFunc_int_int_shaped.ok
end Go.Fw
namespace Go.Fw
variable {ρ : Type}
open Go.Proofs
def f73bsig : Sig := ⟨[⟨.sl 3 (.int .i64), false, false⟩, ⟨.fnc 88, false, false⟩], [⟨.bool, false, false⟩]⟩
def e73b : Entry := ⟨f73bsig, none, fun X => ((), ((slices_ContainsFunc_int_int_shaped.g X.1 X.2.1), ()))⟩
def f73bG : Gm := addG emptyG 90 e90b
theorem f73bGOk : GOk Try.prog f73bG := (GOk.nil).add e90bok (by kernel_rfl)
def f73blE : Clean := ⟨[], [], [], [], []⟩
def f73bs0 (a : LI) (b : Unit) : St := initSt f73bsig.ps (a, (b, ()))
def f73bs1 (a : Bool) : St := stOf [(4, xB a)] [] []
def f73bl1 : Clean := ⟨[4], [], [], [], []⟩
def f73bB : Nat → Option Clean := lookL [(1000000, f73bl1)]
abbrev f73bi {ρ : Type} (N : Nat) (c : Code) (p : Plan) (σ : St) (K : KT ρ) : Option ρ := iCode f73bG tab f73bB N c p σ K
def f73bc (n : Nat) : Code := codeN 99 (bodyOf Try.f73) n
theorem f73bt0 N a b (K : KT ρ) : f73bi N (f73bc 1) .n (f73bs0 a b) (joinK (some f73blE) K) =
 slices_ContainsFunc_int_int_shaped.Z0 N a b (fun c => K .ret (f73bs1 c)) := by kernel_rfl
theorem f73bm (N : Nat) (a : LI) (b : Unit) : f73bi N (f73bc 1) .n (f73bs0 a b) (joinK (some f73blE) (finK tab f73bsig Try.f73.results.toList)) = slices_ContainsFunc_int_int_shaped.Z0 N a b (fun c => some ((), (c, ()))) :=
 (f73bt0 N a b (finK tab f73bsig Try.f73.results.toList)).trans (by kernel_rfl)
theorem f73bok (h : slices_ContainsFunc_int_int_shaped.Spec) : EntryOk Try.prog 73 e73b :=
 entry_of_code (sig := f73bsig) (c := (f73bc 1)) (pl := .n) (je := (some f73blE)) (B := f73bB) Try.func73 (by kernel_rfl) (by kernel_rfl) (by kernel_rfl) tabOk f73bGOk (by kernel_rfl) (by kernel_rfl) (by kernel_rfl) (by kernel_rfl) fun X hb hp => by
  obtain ⟨a, b, _⟩ := X
  obtain ⟨N, h⟩ := h a b hb.1
  exact ⟨N, (f73bm N a b).trans (h N (Nat.le_refl N))⟩
theorem e73bok : EntryOk Try.prog 73 e73b := f73bok slices_ContainsFunc_int_int_shaped.ok
end Go.Fw
namespace Go.Fw
variable {ρ : Type}
open Go.Proofs
def f66sig : Sig := ⟨[⟨.pair (.int .i64) (.pair (.int .i64) (.sl 3 (.int .i64))), true, false⟩], [⟨.bool, false, false⟩]⟩
def e66 : Entry := ⟨f66sig, none, fun X => ((), ((impl_shaped.g X.1), ()))⟩
def f66G : Gm := addG (addG emptyG 49 e49) 73 e73b
theorem f66GOk : GOk Try.prog f66G := ((GOk.nil).add e49ok (by kernel_rfl)).add e73bok (by kernel_rfl)
def f66lE : Clean := ⟨[], [], [], [], []⟩
def f66s0 (a : MT) : St := initSt f66sig.ps (a, ())
def f66s1 (a : Bool) : St := stOf [(2, xB a)] [] []
def f66l1 : Clean := ⟨[2], [], [], [], []⟩
def f66B : Nat → Option Clean := lookL [(1000000, f66l1)]
abbrev f66i {ρ : Type} (N : Nat) (c : Code) (p : Plan) (σ : St) (K : KT ρ) : Option ρ := iCode f66G tab f66B N c p σ K
def f66c (n : Nat) : Code := codeN 99 (bodyOf Try.f66) n
theorem f66t0 N a (K : KT ρ) : f66i N (f66c 1) .n (f66s0 a) (joinK (some f66lE) K) =
 impl_shaped.Z0 N a (fun b => K .ret (f66s1 b)) := by kernel_rfl
theorem f66m (N : Nat) (a : MT) : f66i N (f66c 1) .n (f66s0 a) (joinK (some f66lE) (finK tab f66sig Try.f66.results.toList)) = impl_shaped.Z0 N a (fun b => some ((), (b, ()))) :=
 (f66t0 N a (finK tab f66sig Try.f66.results.toList)).trans (by kernel_rfl)
theorem f66ok (h : impl_shaped.Spec) : EntryOk Try.prog 66 e66 :=
 entry_of_code (sig := f66sig) (c := (f66c 1)) (pl := .n) (je := (some f66lE)) (B := f66B) Try.func66 (by kernel_rfl) (by kernel_rfl) (by kernel_rfl) tabOk f66GOk (by kernel_rfl) (by kernel_rfl) (by kernel_rfl) (by kernel_rfl) fun X hb hp => by
  obtain ⟨a, _⟩ := X
  obtain ⟨N, h⟩ := h a hb.1
  exact ⟨N, (f66m N a).trans (h N (Nat.le_refl N))⟩
theorem e66ok : EntryOk Try.prog 66 e66 := f66ok impl_shaped.ok
end Go.Fw
namespace Go.Fw
variable {ρ : Type}
open Go.Proofs
def f69sig : Sig := ⟨[⟨.pair (.int .i64) (.pair (.int .i64) (.sl 3 (.int .i64))), true, false⟩, ⟨.int .i64, false, false⟩, ⟨.int .i64, false, false⟩], [⟨.int .i64, false, false⟩]⟩
def e69 : Entry := ⟨f69sig, (some fun X => impl_Matrix_at.P X.1 X.2.1 X.2.2.1), fun X => ((), ((impl_Matrix_at.g X.1 X.2.1 X.2.2.1), ()))⟩
def f69G : Gm := emptyG
theorem f69GOk : GOk Try.prog f69G := GOk.nil
def f69lE : Clean := ⟨[], [], [], [], []⟩
def f69s0 (a : MT) (b c : Int) : St := initSt f69sig.ps (a, (b, (c, ())))
def f69s1 (a : Int) : St := stOf [(6, xi a)] [] []
def f69l1 : Clean := ⟨[6], [], [], [], []⟩
def f69B : Nat → Option Clean := lookL [(1000000, f69l1)]
abbrev f69i {ρ : Type} (N : Nat) (c : Code) (p : Plan) (σ : St) (K : KT ρ) : Option ρ := iCode f69G tab f69B N c p σ K
def f69c (n : Nat) : Code := codeN 99 (bodyOf Try.f69) n
theorem f69t0 N a b c (K : KT ρ) : f69i N (f69c 1) .n (f69s0 a b c) (joinK (some f69lE) K) =
 impl_Matrix_at.Z0 N a b c (fun d => K .ret (f69s1 d)) := by kernel_rfl
theorem f69m (N : Nat) (a : MT) (b c : Int) : f69i N (f69c 1) .n (f69s0 a b c) (joinK (some f69lE) (finK tab f69sig Try.f69.results.toList)) = impl_Matrix_at.Z0 N a b c (fun d => some ((), (d, ()))) :=
 (f69t0 N a b c (finK tab f69sig Try.f69.results.toList)).trans (by kernel_rfl)
theorem f69ok (h : impl_Matrix_at.Spec) : EntryOk Try.prog 69 e69 :=
 entry_of_code (sig := f69sig) (c := (f69c 1)) (pl := .n) (je := (some f69lE)) (B := f69B) Try.func69 (by kernel_rfl) (by kernel_rfl) (by kernel_rfl) tabOk f69GOk (by kernel_rfl) (by kernel_rfl) (by kernel_rfl) (by kernel_rfl) fun X hb hp => by
  obtain ⟨a, b, d, _⟩ := X
  obtain ⟨N, h⟩ := h a b d hb.1 hp
  exact ⟨N, (f69m N a b d).trans (h N (Nat.le_refl N))⟩
theorem e69ok : EntryOk Try.prog 69 e69 := f69ok impl_Matrix_at.ok
end Go.Fw
namespace Go.Fw
variable {ρ : Type}
open Go.Proofs
def f89sig : Sig := ⟨[⟨.int .i64, false, false⟩, ⟨.int .i64, false, false⟩], [⟨.int .i64, false, false⟩]⟩
def e89 : Entry := ⟨f89sig, (some fun X => impl_gcd.P X.1 X.2.1), fun X => ((), ((impl_gcd.g X.1 X.2.1), ()))⟩
def f89G : Gm := emptyG
theorem f89GOk : GOk Try.prog f89G := GOk.nil
def f89lE : Clean := ⟨[], [], [], [], []⟩
def f89s0 (a b : Int) : St := initSt f89sig.ps (a, (b, ()))
def f89s1 (a b : Int) : St := stOf [(0, xi a), (1, xi b)] [] []
def f89l1 : Clean := ⟨[0, 1], [], [], [], []⟩
def f89s2 (a : Int) : St := stOf [(0, xi a)] [] []
def f89l2 : Clean := ⟨[0], [], [], [], []⟩
def f89s3 (a : Int) : St := stOf [(4, xi a)] [] []
def f89l3 : Clean := ⟨[4], [], [], [], []⟩
def f89B : Nat → Option Clean := lookL [(0, f89l2), (1000000, f89l3)]
abbrev f89i {ρ : Type} (N : Nat) (c : Code) (p : Plan) (σ : St) (K : KT ρ) : Option ρ := iCode f89G tab f89B N c p σ K
def f89c (n : Nat) : Code := codeN 99 (bodyOf Try.f89) n
theorem f89t1 N a b (K : KT ρ) : f89i N (f89c 2) .n (f89s0 a b) (joinK (some f89l1) K) =
 impl_gcd.Z1 N a b (fun a b => K .nrm (f89s1 a b)) := by kernel_rfl
theorem f89t5 N a b (K : KT ρ) : f89i N (f89c 17) .n (f89s1 a b) (joinK (some f89l1) K) =
 impl_gcd.Z5 N a b (fun a b => K .nrm (f89s1 a b)) (fun a => K (.exit 0) (f89s2 a)) := by kernel_rfl
def f89p4 : Plan := .mk none (some f89l1) .n .n
abbrev f89w4 {ρ : Type} (N M : Nat) (σ : St) (K : KT ρ) : Option ρ := loopC (fun σ K => f89i N (f89c 17) .n σ K) f89l1 M σ K
theorem f89t4L {ρ : Type} (N : Nat) (K : KT ρ) : ∀ (M : Nat) (a b : Int), f89w4 N M (f89s1 a b) K =
 impl_gcd.Z4L N (fun a => K (.exit 0) (f89s2 a)) M a b
 | 0, _, _ => rfl
 | M + 1, a, b => viaRoundS (fun k => impl_gcd.Z5 N a b k (fun a => K (.exit 0) (f89s2 a))) (f89t5 N (K := seqK (fun σ => f89w4 N M σ K) K) ..) (fx2 fun a b => f89t4L N K M a b) (by kernel_rfl)
theorem f89t4 N a b (K : KT ρ) : f89i N (f89c 9) f89p4 (f89s1 a b) (joinK (some f89l2) K) =
  impl_gcd.Z4 N a b (fun a => K (.exit 0) (f89s2 a)) :=
 viaLoopS (by kernel_rfl) (f89t4L N (joinK (some f89l2) K) N a b) (by kernel_rfl)
def f89p3 : Plan := .mk (some f89l2) none f89p4 .n
theorem f89t3 N a b (K : KT ρ) : f89i N (f89c 5) f89p3 (f89s1 a b) (joinK (some f89l2) K) =
  impl_gcd.Z3 N a b (fun a => K .nrm (f89s2 a)) :=
 viaBlockS (by kernel_rfl) (f89t4 N (K := blockK 0 (joinK (some f89l2) K)) ..) (by kernel_rfl)
theorem f89t6 N a (K : KT ρ) : f89i N (f89c 7) .n (f89s2 a) (joinK (some f89lE) K) =
 impl_gcd.Z6 N a (fun b => K .ret (f89s3 b)) := by kernel_rfl
def f89p2 : Plan := .mk (some f89l2) none f89p3 .n
theorem f89t2 N a b (K : KT ρ) : f89i N (f89c 3) f89p2 (f89s1 a b) (joinK (some f89lE) K) =
  impl_gcd.Z2 N a b (fun c => K .ret (f89s3 c)) :=
 viaSeqS (fun k => impl_gcd.Z3 N a b k) (by kernel_rfl) (f89t3 N (K := seqK (fun σ => f89i N (f89c 7) .n σ (joinK (some f89lE) K)) (joinK (some f89lE) K)) ..) (funext fun a => f89t6 N a K) (by kernel_rfl)
def f89p0 : Plan := .mk (some f89l1) none .n f89p2
theorem f89t0 N a b (K : KT ρ) : f89i N (f89c 1) f89p0 (f89s0 a b) (joinK (some f89lE) K) =
  impl_gcd.Z0 N a b (fun c => K .ret (f89s3 c)) :=
 viaSeqS (fun k => impl_gcd.Z1 N a b k) (by kernel_rfl) (f89t1 N (K := seqK (fun σ => f89i N (f89c 3) f89p2 σ (joinK (some f89lE) K)) (joinK (some f89lE) K)) ..) (fx2 fun a b => f89t2 N a b K) (by kernel_rfl)
theorem f89m (N : Nat) (a b : Int) : f89i N (f89c 1) f89p0 (f89s0 a b) (joinK (some f89lE) (finK tab f89sig Try.f89.results.toList)) = impl_gcd.Z0 N a b (fun c => some ((), (c, ()))) :=
 (f89t0 N a b (finK tab f89sig Try.f89.results.toList)).trans (by kernel_rfl)
theorem f89ok (h : impl_gcd.Spec) : EntryOk Try.prog 89 e89 :=
 entry_of_code (sig := f89sig) (c := (f89c 1)) (pl := f89p0) (je := (some f89lE)) (B := f89B) Try.func89 (by kernel_rfl) (by kernel_rfl) (by kernel_rfl) tabOk f89GOk (by kernel_rfl) (by kernel_rfl) (by kernel_rfl) (by kernel_rfl) fun X hb hp => by
  obtain ⟨a, b, _⟩ := X
  obtain ⟨N, h⟩ := h a b hp
  exact ⟨N, (f89m N a b).trans (h N (Nat.le_refl N))⟩
theorem e89ok : EntryOk Try.prog 89 e89 := f89ok impl_gcd.ok
end Go.Fw
namespace Go.Fw
variable {ρ : Type}
open Go.Proofs
def f67sig : Sig := ⟨[⟨.pair (.int .i64) (.pair (.int .i64) (.sl 3 (.int .i64))), true, false⟩], [⟨.sl 3 (.int .i64), false, true⟩]⟩
def e67 : Entry := ⟨f67sig, (some fun X => impl_factors.P X.1), fun X => ((), ((impl_factors.g X.1), ()))⟩
def f67G : Gm := addG (addG emptyG 69 e69) 89 e89
theorem f67GOk : GOk Try.prog f67G := ((GOk.nil).add e69ok (by kernel_rfl)).add e89ok (by kernel_rfl)
def f67lE : Clean := ⟨[], [], [], [], []⟩
def f67s0 (a : MT) : St := initSt f67sig.ps (a, ())
def f67s1 (a b : Int) (c : LI) : St := stOf [(1, xb 1)] [(1, (47, [yi a, yi b, .sn 3 tI c none]))] []
def f67l1 : Clean := ⟨[1], [1], [], [], []⟩
def f67s2 (a b : LI) (c d : Int) (e : LI) : St := stOf [(1, xb 1), (3, xo 1000192), (4, xo 1000256)] [(1, (47, [yi c, yi d, .sn 3 tI e none]))] [(1000192, (⟨3, .int .i64, a, true, false⟩ : Row)), (1000256, (⟨3, .int .i64, b, true, false⟩ : Row))]
def f67l2 : Clean := ⟨[1, 3, 4], [1], [], [], [(⟨false, 3, 0⟩, 1000192), (⟨false, 4, 0⟩, 1000256)]⟩
def f67s3 (a b c : LI) (d e : Int) (f : LI) : St := stOf [(1, xb 1), (3, xo 1000192), (4, xo 1000256), (5, xo 1000320)] [(1, (47, [yi d, yi e, .sn 3 tI f none]))] [(1000192, (⟨3, .int .i64, a, true, false⟩ : Row)), (1000256, (⟨3, .int .i64, b, true, false⟩ : Row)), (1000320, (⟨3, .int .i64, c, true, false⟩ : Row))]
def f67l3 : Clean := ⟨[1, 3, 4, 5], [1], [], [], [(⟨false, 3, 0⟩, 1000192), (⟨false, 4, 0⟩, 1000256), (⟨false, 5, 0⟩, 1000320)]⟩
def f67s4 (a b c : LI) (d e f g : Int) (h : LI) : St := stOf [(1, xb 1), (3, xo 1000192), (4, xo 1000256), (5, xo 1000320), (34, xi d), (35, xi e)] [(1, (47, [yi f, yi g, .sn 3 tI h none]))] [(1000192, (⟨3, .int .i64, a, true, false⟩ : Row)), (1000256, (⟨3, .int .i64, b, true, false⟩ : Row)), (1000320, (⟨3, .int .i64, c, true, false⟩ : Row))]
def f67l4 : Clean := ⟨[1, 3, 4, 5, 34, 35], [1], [], [], [(⟨false, 3, 0⟩, 1000192), (⟨false, 4, 0⟩, 1000256), (⟨false, 5, 0⟩, 1000320)]⟩
def f67s5 (a b c : LI) (d e : Int) (f : Bool) (g h : Int) (i : LI) : St := stOf [(1, xb 1), (3, xo 1000192), (4, xo 1000256), (5, xo 1000320), (34, xi d), (35, xi e), (36, xB f)] [(1, (47, [yi g, yi h, .sn 3 tI i none]))] [(1000192, (⟨3, .int .i64, a, true, false⟩ : Row)), (1000256, (⟨3, .int .i64, b, true, false⟩ : Row)), (1000320, (⟨3, .int .i64, c, true, false⟩ : Row))]
def f67l5 : Clean := ⟨[1, 3, 4, 5, 34, 35, 36], [1], [], [], [(⟨false, 3, 0⟩, 1000192), (⟨false, 4, 0⟩, 1000256), (⟨false, 5, 0⟩, 1000320)]⟩
def f67s6 (a b c : LI) (d e f g h : Int) (i : LI) : St := stOf [(1, xb 1), (3, xo 1000192), (4, xo 1000256), (5, xo 1000320), (6, xi d), (34, xi e), (35, xi f)] [(1, (47, [yi g, yi h, .sn 3 tI i none]))] [(1000192, (⟨3, .int .i64, a, true, false⟩ : Row)), (1000256, (⟨3, .int .i64, b, true, false⟩ : Row)), (1000320, (⟨3, .int .i64, c, true, false⟩ : Row))]
def f67l6 : Clean := ⟨[1, 3, 4, 5, 6, 34, 35], [1], [], [], [(⟨false, 3, 0⟩, 1000192), (⟨false, 4, 0⟩, 1000256), (⟨false, 5, 0⟩, 1000320)]⟩
def f67s7 (a b c d : LI) (e f g h : Int) (i : LI) : St := stOf [(1, xb 1), (3, xo 1000192), (4, xo 1000256), (5, xo 1000320), (7, xo 1000448), (34, xi e), (35, xi f)] [(1, (47, [yi g, yi h, .sn 3 tI i none]))] [(1000192, (⟨3, .int .i64, a, true, false⟩ : Row)), (1000256, (⟨3, .int .i64, b, true, false⟩ : Row)), (1000320, (⟨3, .int .i64, c, true, false⟩ : Row)), (1000448, (⟨3, .int .i64, d, true, false⟩ : Row))]
def f67l7 : Clean := ⟨[1, 3, 4, 5, 7, 34, 35], [1], [], [], [(⟨false, 3, 0⟩, 1000192), (⟨false, 4, 0⟩, 1000256), (⟨false, 5, 0⟩, 1000320), (⟨false, 7, 0⟩, 1000448)]⟩
def f67s8 (a b c d : LI) (e f g h i : Int) (j : LI) : St := stOf [(1, xb 1), (3, xo 1000192), (4, xo 1000256), (5, xo 1000320), (7, xo 1000448), (8, xi e), (34, xi f), (35, xi g)] [(1, (47, [yi h, yi i, .sn 3 tI j none]))] [(1000192, (⟨3, .int .i64, a, true, false⟩ : Row)), (1000256, (⟨3, .int .i64, b, true, false⟩ : Row)), (1000320, (⟨3, .int .i64, c, true, false⟩ : Row)), (1000448, (⟨3, .int .i64, d, true, false⟩ : Row))]
def f67l8 : Clean := ⟨[1, 3, 4, 5, 7, 8, 34, 35], [1], [], [], [(⟨false, 3, 0⟩, 1000192), (⟨false, 4, 0⟩, 1000256), (⟨false, 5, 0⟩, 1000320), (⟨false, 7, 0⟩, 1000448)]⟩
def f67s9 (a b c d : LI) (e f g h i j : Int) (l : LI) : St := stOf [(1, xb 1), (3, xo 1000192), (4, xo 1000256), (5, xo 1000320), (7, xo 1000448), (8, xi e), (9, xi f), (34, xi g), (35, xi h)] [(1, (47, [yi i, yi j, .sn 3 tI l none]))] [(1000192, (⟨3, .int .i64, a, true, false⟩ : Row)), (1000256, (⟨3, .int .i64, b, true, false⟩ : Row)), (1000320, (⟨3, .int .i64, c, true, false⟩ : Row)), (1000448, (⟨3, .int .i64, d, true, false⟩ : Row))]
def f67l9 : Clean := ⟨[1, 3, 4, 5, 7, 8, 9, 34, 35], [1], [], [], [(⟨false, 3, 0⟩, 1000192), (⟨false, 4, 0⟩, 1000256), (⟨false, 5, 0⟩, 1000320), (⟨false, 7, 0⟩, 1000448)]⟩
def f67s10 (a b c d : LI) (e f g h i j l m : Int) (o : LI) : St := stOf [(1, xb 1), (3, xo 1000192), (4, xo 1000256), (5, xo 1000320), (7, xo 1000448), (8, xi e), (9, xi f), (34, xi g), (35, xi h), (62, xi i), (63, xi j)] [(1, (47, [yi l, yi m, .sn 3 tI o none]))] [(1000192, (⟨3, .int .i64, a, true, false⟩ : Row)), (1000256, (⟨3, .int .i64, b, true, false⟩ : Row)), (1000320, (⟨3, .int .i64, c, true, false⟩ : Row)), (1000448, (⟨3, .int .i64, d, true, false⟩ : Row))]
def f67l10 : Clean := ⟨[1, 3, 4, 5, 7, 8, 9, 34, 35, 62, 63], [1], [], [], [(⟨false, 3, 0⟩, 1000192), (⟨false, 4, 0⟩, 1000256), (⟨false, 5, 0⟩, 1000320), (⟨false, 7, 0⟩, 1000448)]⟩
def f67s11 (a b c d : LI) (e f g h i j : Int) (l : Bool) (m o : Int) (p : LI) : St := stOf [(1, xb 1), (3, xo 1000192), (4, xo 1000256), (5, xo 1000320), (7, xo 1000448), (8, xi e), (9, xi f), (34, xi g), (35, xi h), (62, xi i), (63, xi j), (64, xB l)] [(1, (47, [yi m, yi o, .sn 3 tI p none]))] [(1000192, (⟨3, .int .i64, a, true, false⟩ : Row)), (1000256, (⟨3, .int .i64, b, true, false⟩ : Row)), (1000320, (⟨3, .int .i64, c, true, false⟩ : Row)), (1000448, (⟨3, .int .i64, d, true, false⟩ : Row))]
def f67l11 : Clean := ⟨[1, 3, 4, 5, 7, 8, 9, 34, 35, 62, 63, 64], [1], [], [], [(⟨false, 3, 0⟩, 1000192), (⟨false, 4, 0⟩, 1000256), (⟨false, 5, 0⟩, 1000320), (⟨false, 7, 0⟩, 1000448)]⟩
def f67s12 (a b c d : LI) (e f g h i j l m o : Int) (p : LI) : St := stOf [(1, xb 1), (3, xo 1000192), (4, xo 1000256), (5, xo 1000320), (7, xo 1000448), (8, xi e), (9, xi f), (10, xi g), (34, xi h), (35, xi i), (62, xi j), (63, xi l)] [(1, (47, [yi m, yi o, .sn 3 tI p none]))] [(1000192, (⟨3, .int .i64, a, true, false⟩ : Row)), (1000256, (⟨3, .int .i64, b, true, false⟩ : Row)), (1000320, (⟨3, .int .i64, c, true, false⟩ : Row)), (1000448, (⟨3, .int .i64, d, true, false⟩ : Row))]
def f67l12 : Clean := ⟨[1, 3, 4, 5, 7, 8, 9, 10, 34, 35, 62, 63], [1], [], [], [(⟨false, 3, 0⟩, 1000192), (⟨false, 4, 0⟩, 1000256), (⟨false, 5, 0⟩, 1000320), (⟨false, 7, 0⟩, 1000448)]⟩
def f67s13 (a b c d : LI) (e f g h i j l m o p q : Int) (r : LI) : St := stOf [(1, xb 1), (3, xo 1000192), (4, xo 1000256), (5, xo 1000320), (7, xo 1000448), (8, xi e), (9, xi f), (10, xi g), (11, xi h), (12, xi i), (34, xi j), (35, xi l), (62, xi m), (63, xi o)] [(1, (47, [yi p, yi q, .sn 3 tI r none]))] [(1000192, (⟨3, .int .i64, a, true, false⟩ : Row)), (1000256, (⟨3, .int .i64, b, true, false⟩ : Row)), (1000320, (⟨3, .int .i64, c, true, false⟩ : Row)), (1000448, (⟨3, .int .i64, d, true, false⟩ : Row))]
def f67l13 : Clean := ⟨[1, 3, 4, 5, 7, 8, 9, 10, 11, 12, 34, 35, 62, 63], [1], [], [], [(⟨false, 3, 0⟩, 1000192), (⟨false, 4, 0⟩, 1000256), (⟨false, 5, 0⟩, 1000320), (⟨false, 7, 0⟩, 1000448)]⟩
def f67s14 (a b c d : LI) (e f g h i : Int) (j : LI) : St := stOf [(1, xb 1), (3, xo 1000192), (4, xo 1000256), (5, xo 1000320), (7, xo 1000448), (16, xi e), (34, xi f), (35, xi g)] [(1, (47, [yi h, yi i, .sn 3 tI j none]))] [(1000192, (⟨3, .int .i64, a, true, false⟩ : Row)), (1000256, (⟨3, .int .i64, b, true, false⟩ : Row)), (1000320, (⟨3, .int .i64, c, true, false⟩ : Row)), (1000448, (⟨3, .int .i64, d, true, false⟩ : Row))]
def f67l14 : Clean := ⟨[1, 3, 4, 5, 7, 16, 34, 35], [1], [], [], [(⟨false, 3, 0⟩, 1000192), (⟨false, 4, 0⟩, 1000256), (⟨false, 5, 0⟩, 1000320), (⟨false, 7, 0⟩, 1000448)]⟩
def f67s15 (a b c d : LI) (e f g h i j l : Int) (m : LI) : St := stOf [(1, xb 1), (3, xo 1000192), (4, xo 1000256), (5, xo 1000320), (7, xo 1000448), (16, xi e), (34, xi f), (35, xi g), (158, xo 1000448), (159, xi h), (160, xi i)] [(1, (47, [yi j, yi l, .sn 3 tI m none]))] [(1000192, (⟨3, .int .i64, a, true, false⟩ : Row)), (1000256, (⟨3, .int .i64, b, true, false⟩ : Row)), (1000320, (⟨3, .int .i64, c, true, false⟩ : Row)), (1000448, (⟨3, .int .i64, d, true, false⟩ : Row))]
def f67l15 : Clean := ⟨[1, 3, 4, 5, 7, 16, 34, 35, 158, 159, 160], [1], [], [], [(⟨false, 3, 0⟩, 1000192), (⟨false, 4, 0⟩, 1000256), (⟨false, 5, 0⟩, 1000320), (⟨false, 7, 0⟩, 1000448)]⟩
def f67s16 (a b c d : LI) (e f g h i j : Int) (l : LI) : St := stOf [(1, xb 1), (3, xo 1000192), (4, xo 1000256), (5, xo 1000320), (7, xo 1000448), (16, xi e), (19, xi f), (34, xi g), (35, xi h)] [(1, (47, [yi i, yi j, .sn 3 tI l none]))] [(1000192, (⟨3, .int .i64, a, true, false⟩ : Row)), (1000256, (⟨3, .int .i64, b, true, false⟩ : Row)), (1000320, (⟨3, .int .i64, c, true, false⟩ : Row)), (1000448, (⟨3, .int .i64, d, true, false⟩ : Row))]
def f67l16 : Clean := ⟨[1, 3, 4, 5, 7, 16, 19, 34, 35], [1], [], [], [(⟨false, 3, 0⟩, 1000192), (⟨false, 4, 0⟩, 1000256), (⟨false, 5, 0⟩, 1000320), (⟨false, 7, 0⟩, 1000448)]⟩
def f67s17 (a b c d : LI) (e f g h i j l m : Int) (o : LI) : St := stOf [(1, xb 1), (3, xo 1000192), (4, xo 1000256), (5, xo 1000320), (7, xo 1000448), (16, xi e), (19, xi f), (34, xi g), (35, xi h), (178, xo 1000448), (179, xi i), (180, xi j)] [(1, (47, [yi l, yi m, .sn 3 tI o none]))] [(1000192, (⟨3, .int .i64, a, true, false⟩ : Row)), (1000256, (⟨3, .int .i64, b, true, false⟩ : Row)), (1000320, (⟨3, .int .i64, c, true, false⟩ : Row)), (1000448, (⟨3, .int .i64, d, true, false⟩ : Row))]
def f67l17 : Clean := ⟨[1, 3, 4, 5, 7, 16, 19, 34, 35, 178, 179, 180], [1], [], [], [(⟨false, 3, 0⟩, 1000192), (⟨false, 4, 0⟩, 1000256), (⟨false, 5, 0⟩, 1000320), (⟨false, 7, 0⟩, 1000448)]⟩
def f67s18 (a b c d : LI) (e f g h i : Int) (j : LI) : St := stOf [(1, xb 1), (3, xo 1000192), (4, xo 1000256), (5, xo 1000320), (7, xo 1000448), (19, xi e), (34, xi f), (35, xi g)] [(1, (47, [yi h, yi i, .sn 3 tI j none]))] [(1000192, (⟨3, .int .i64, a, true, false⟩ : Row)), (1000256, (⟨3, .int .i64, b, true, false⟩ : Row)), (1000320, (⟨3, .int .i64, c, true, false⟩ : Row)), (1000448, (⟨3, .int .i64, d, true, false⟩ : Row))]
def f67l18 : Clean := ⟨[1, 3, 4, 5, 7, 19, 34, 35], [1], [], [], [(⟨false, 3, 0⟩, 1000192), (⟨false, 4, 0⟩, 1000256), (⟨false, 5, 0⟩, 1000320), (⟨false, 7, 0⟩, 1000448)]⟩
def f67s19 (a b c d : LI) (e f g h i j l : Int) (m : LI) : St := stOf [(1, xb 1), (3, xo 1000192), (4, xo 1000256), (5, xo 1000320), (19, xi e), (34, xi f), (35, xi g), (205, xo 1013120), (206, xi h), (207, xi i)] [(1, (47, [yi j, yi l, .sn 3 tI m none]))] [(1000192, (⟨3, .int .i64, a, true, false⟩ : Row)), (1000256, (⟨3, .int .i64, b, true, false⟩ : Row)), (1000320, (⟨3, .int .i64, c, true, false⟩ : Row)), (1013120, (⟨3, .int .i64, d, true, false⟩ : Row))]
def f67l19 : Clean := ⟨[1, 3, 4, 5, 19, 34, 35, 205, 206, 207], [1], [], [], [(⟨false, 3, 0⟩, 1000192), (⟨false, 4, 0⟩, 1000256), (⟨false, 5, 0⟩, 1000320), (⟨false, 205, 0⟩, 1013120)]⟩
def f67s20 (a : LI) : St := stOf [(5, xo 1000320)] [] [(1000320, (⟨3, .int .i64, a, true, false⟩ : Row))]
def f67l20 : Clean := ⟨[5], [], [], [], [(⟨false, 5, 0⟩, 1000320)]⟩
def f67s21 (a : LI) : St := stOf [(2, xo 1001000128)] [] [(1001000128, (⟨3, .int .i64, a, true, true⟩ : Row))]
def f67l21 : Clean := ⟨[2], [], [⟨⟨false, 2, 0⟩, 30000000, 3, .int .i64, true⟩], [], [(⟨false, 2, 0⟩, 1001000128)]⟩
def f67B : Nat → Option Clean := lookL [(5, f67l10), (4, f67l8), (3, f67l8), (2, f67l7), (6, f67l14), (8, f67l18), (10, f67l4), (1, f67l4), (0, f67l20), (1000000, f67l21)]
abbrev f67i {ρ : Type} (N : Nat) (c : Code) (p : Plan) (σ : St) (K : KT ρ) : Option ρ := iCode f67G tab f67B N c p σ K
def f67c (n : Nat) : Code := codeN 99 (bodyOf Try.f67) n
theorem f67t1 N a (K : KT ρ) : f67i N (f67c 2) .n (f67s0 a) (joinK (some f67l1) K) =
 impl_factors.Z1 N a (fun b c d => K .nrm (f67s1 b c d)) := by kernel_rfl
theorem f67t3 N a b c (K : KT ρ) : f67i N (f67c 5) .n (f67s1 a b c) (joinK (some f67l2) K) =
 impl_factors.Z3 N a b c (fun d e a b c => K .nrm (f67s2 d e a b c)) := by kernel_rfl
theorem f67t5 N a b c d e (K : KT ρ) : f67i N (f67c 11) .n (f67s2 a b c d e) (joinK (some f67l3) K) =
 impl_factors.Z5 N a b c d e (fun a b f c d e => K .nrm (f67s3 a b f c d e)) := by kernel_rfl
theorem f67t8 N a b c d e f (K : KT ρ) : f67i N (f67c 39) .n (f67s3 a b c d e f) (joinK (some f67l4) K) =
 impl_factors.Z8 N a b c d e f (fun a b c g h d e f => K .nrm (f67s4 a b c g h d e f)) := by kernel_rfl
theorem f67t12 N a b c d e f g h (K : KT ρ) : f67i N (f67c 279) .n (f67s4 a b c d e f g h) (joinK (some f67l5) K) =
 impl_factors.Z12 N a b c d e f g h (fun a b c d e i f g h => K .nrm (f67s5 a b c d e i f g h)) := by kernel_rfl
theorem f67t14 N b c a d e i f g h (K : KT ρ) : f67i N (f67c 663) .n (f67s5 b c a d e i f g h) (joinK (some f67l4) K) =
 impl_factors.Z14 N b c a d e i f g h (fun b c a d e f g h => K .nrm (f67s4 b c a d e f g h)) (fun a => K (.exit 0) (f67s20 a)) := by kernel_rfl
theorem f67t18 N a b c d e f g h (K : KT ρ) : f67i N (f67c 4503) .n (f67s4 a b c d e f g h) (joinK (some f67l6) K) =
 impl_factors.Z18 N a b c d e f g h (fun a b c i d e f g h => K .nrm (f67s6 a b c i d e f g h)) := by kernel_rfl
theorem f67t20 N a b c i d e f g h (K : KT ρ) : f67i N (f67c 10647) .n (f67s6 a b c i d e f g h) (joinK (some f67l6) K) =
 impl_factors.Z20 N a b c i d e f g h (fun a b c i d e f g h => K .nrm (f67s6 a b c i d e f g h)) (fun a b c d e f g h => K (.exit 1) (f67s4 a b c d e f g h)) := by kernel_rfl
theorem f67t22 N a b c d e f g h i (K : KT ρ) : f67i N (f67c 22935) .n (f67s6 a b c d e f g h i) (joinK (some f67l6) K) =
 impl_factors.Z22 N a b c d e f g h i (fun a b c d e f g h i => K .nrm (f67s6 a b c d e f g h i)) := by kernel_rfl
theorem f67t24 N a b c i d e f g h (K : KT ρ) : f67i N (f67c 47511) .n (f67s6 a b c i d e f g h) (joinK (some f67l7) K) =
 impl_factors.Z24 N a b c i d e f g h (fun a b c j d e f g h => K .nrm (f67s7 a b c j d e f g h)) := by kernel_rfl
theorem f67t27 N a b c d e f g h i (K : KT ρ) : f67i N (f67c 162199) .n (f67s7 a b c d e f g h i) (joinK (some f67l8) K) =
 impl_factors.Z27 N a b c d e f g h i (fun a b c d j e f g h i => K .nrm (f67s8 a b c d j e f g h i)) := by kernel_rfl
theorem f67t31 N a b c d j e f g h i (K : KT ρ) : f67i N (f67c 1145239) .n (f67s8 a b c d j e f g h i) (joinK (some f67l8) K) =
 impl_factors.Z31 N a b c d j e f g h i (fun a b c d j e f g h i => K .nrm (f67s8 a b c d j e f g h i)) (fun a b c d e f g h i => K (.exit 2) (f67s7 a b c d e f g h i)) := by kernel_rfl
theorem f67t35 N a b c d e f g h i j (K : KT ρ) : f67i N (f67c 9009559) .n (f67s8 a b c d e f g h i j) (joinK (some f67l9) K) =
 impl_factors.Z35 N a b c d e f g h i j (fun a b c d e l f g h i j => K .nrm (f67s9 a b c d e l f g h i j)) := by kernel_rfl
theorem f67t37 N a b c d e f g h i j l (K : KT ρ) : f67i N (f67c 21592471) .n (f67s9 a b c d e f g h i j l) (joinK (some f67l10) K) =
 impl_factors.Z37 N a b c d e f g h i j l (fun a b c d e f g h m o i j l => K .nrm (f67s10 a b c d e f g h m o i j l)) := by kernel_rfl
theorem f67t41 N a b c d e f g h i j l m o (K : KT ρ) : f67i N (f67c 147421591) .n (f67s10 a b c d e f g h i j l m o) (joinK (some f67l11) K) =
 impl_factors.Z41 N a b c d e f g h i j l m o (fun a b c d e f g h i j p l m o => K .nrm (f67s11 a b c d e f g h i j p l m o)) := by kernel_rfl
theorem f67t43 N a b c d e l f g m o p h i j (K : KT ρ) : f67i N (f67c 348748183) .n (f67s11 a b c d e l f g m o p h i j) (joinK (some f67l10) K) =
 impl_factors.Z43 N a b c d e l f g m o p h i j (fun a b c d e l f g m o h i j => K .nrm (f67s10 a b c d e l f g m o h i j)) (fun a b c d e f g h i j => K (.exit 4) (f67s8 a b c d e f g h i j)) := by kernel_rfl
theorem f67t47 N a b c d e f g h i j l m o (K : KT ρ) : f67i N (f67c 2362014103) .n (f67s10 a b c d e f g h i j l m o) (joinK (some f67l12) K) =
 impl_factors.Z47 N a b c d e f g h i j l m o (fun a b c d e f p g h i j l m o => K .nrm (f67s12 a b c d e f p g h i j l m o)) := by kernel_rfl
theorem f67t49 N a b c d e f g h i j l m o p (K : KT ρ) : f67i N (f67c 5583239575) .n (f67s12 a b c d e f g h i j l m o p) (joinK (some f67l13) K) =
 impl_factors.Z49 N a b c d e f g h i j l m o p (fun a b c d e f g q r h i j l m o p => K .nrm (f67s13 a b c d e f g q r h i j l m o p)) := by kernel_rfl
theorem f67t51 N a b c d e f p q r g h i j l m o (K : KT ρ) : f67i N (f67c 12025690519) .n (f67s13 a b c d e f p q r g h i j l m o) (joinK (some f67l13) K) =
 impl_factors.Z51 N a b c d e f p q r g h i j l m o (fun a b c d e f p q r g h i j l m o => K .nrm (f67s13 a b c d e f p q r g h i j l m o)) (fun a b c d e f g h i j l m o => K (.exit 5) (f67s10 a b c d e f g h i j l m o)) := by kernel_rfl
theorem f67t52 N a b c d e f p q r g h i j l m o (K : KT ρ) : f67i N (f67c 16320657815) .n (f67s13 a b c d e f p q r g h i j l m o) (joinK (some f67l10) K) =
 impl_factors.Z52 N a b c d e f p q r g h i j l m o (fun a b c d e f g h i j l m o => K .nrm (f67s10 a b c d e f g h i j l m o)) (fun s => K .ret (f67s21 s)) := by kernel_rfl
def f67p50 : Plan := .mk (some f67l13) none .n .n
theorem f67t50 N a b c d e f p q r g h i j l m o (K : KT ρ) : f67i N (f67c 7730723223) f67p50 (f67s13 a b c d e f p q r g h i j l m o) (joinK (some f67l10) K) =
  impl_factors.Z50 N a b c d e f p q r g h i j l m o (fun a b c d e f g h i j l m o => K .nrm (f67s10 a b c d e f g h i j l m o)) (fun a b c d e f g h i j l m o => K (.exit 5) (f67s10 a b c d e f g h i j l m o)) (fun s => K .ret (f67s21 s)) :=
 viaSeqS (fun k => impl_factors.Z51 N a b c d e f p q r g h i j l m o k (fun a b c d e f g h i j l m o => K (.exit 5) (f67s10 a b c d e f g h i j l m o))) (by kernel_rfl) (f67t51 N (K := seqK (fun σ => f67i N (f67c 16320657815) .n σ (joinK (some f67l10) K)) (joinK (some f67l10) K)) ..) (fx16 fun a b c d e f p q r g h i j l m o => f67t52 N a b c d e f p q r g h i j l m o K) (by kernel_rfl)
def f67p48 : Plan := .mk (some f67l13) none .n f67p50
theorem f67t48 N a b c d e f p g h i j l m o (K : KT ρ) : f67i N (f67c 3435755927) f67p48 (f67s12 a b c d e f p g h i j l m o) (joinK (some f67l10) K) =
  impl_factors.Z48 N a b c d e f p g h i j l m o (fun a b c d e f g h i j l m o => K .nrm (f67s10 a b c d e f g h i j l m o)) (fun a b c d e f g h i j l m o => K (.exit 5) (f67s10 a b c d e f g h i j l m o)) (fun q => K .ret (f67s21 q)) :=
 viaSeqS (fun k => impl_factors.Z49 N a b c d e f p g h i j l m o k) (by kernel_rfl) (f67t49 N (K := seqK (fun σ => f67i N (f67c 7730723223) f67p50 σ (joinK (some f67l10) K)) (joinK (some f67l10) K)) ..) (fx16 fun a b c d e f p r s g h i j l m o => f67t50 N a b c d e f p r s g h i j l m o K) (by kernel_rfl)
def f67p46 : Plan := .mk (some f67l12) none .n f67p48
theorem f67t46 N a b c d e f g h i j l m o (K : KT ρ) : f67i N (f67c 1288272279) f67p46 (f67s10 a b c d e f g h i j l m o) (joinK (some f67l10) K) =
  impl_factors.Z46 N a b c d e f g h i j l m o (fun a b c d e f g h i j l m o => K .nrm (f67s10 a b c d e f g h i j l m o)) (fun a b c d e f g h i j l m o => K (.exit 5) (f67s10 a b c d e f g h i j l m o)) (fun p => K .ret (f67s21 p)) :=
 viaSeqS (fun k => impl_factors.Z47 N a b c d e f g h i j l m o k) (by kernel_rfl) (f67t47 N (K := seqK (fun σ => f67i N (f67c 3435755927) f67p48 σ (joinK (some f67l10) K)) (joinK (some f67l10) K)) ..) (fx14 fun a b c d e f q g h i j l m o => f67t48 N a b c d e f q g h i j l m o K) (by kernel_rfl)
def f67p45 : Plan := .mk (some f67l10) none f67p46 .n
theorem f67t45 N a b c d e f g h i j l m o (K : KT ρ) : f67i N (f67c 751401367) f67p45 (f67s10 a b c d e f g h i j l m o) (joinK (some f67l10) K) =
  impl_factors.Z45 N a b c d e f g h i j l m o (fun a b c d e f g h i j l m o => K .nrm (f67s10 a b c d e f g h i j l m o)) (fun p => K .ret (f67s21 p)) :=
 viaBlockS (by kernel_rfl) (f67t46 N (K := blockK 5 (joinK (some f67l10) K)) ..) (by kernel_rfl)
theorem f67t53 N a b c d e f g h i j l m o (K : KT ρ) : f67i N (f67c 1019836823) .n (f67s10 a b c d e f g h i j l m o) (joinK (some f67l10) K) =
 impl_factors.Z53 N a b c d e f g h i j l m o (fun a b c d e f g h i j l m o => K .nrm (f67s10 a b c d e f g h i j l m o)) := by kernel_rfl
def f67p44 : Plan := .mk (some f67l10) none f67p45 .n
theorem f67t44 N a b c d e f g h i j l m o (K : KT ρ) : f67i N (f67c 482965911) f67p44 (f67s10 a b c d e f g h i j l m o) (joinK (some f67l10) K) =
  impl_factors.Z44 N a b c d e f g h i j l m o (fun a b c d e f g h i j l m o => K .nrm (f67s10 a b c d e f g h i j l m o)) (fun p => K .ret (f67s21 p)) :=
 viaSeqS (fun k => impl_factors.Z45 N a b c d e f g h i j l m o k (fun p => K .ret (f67s21 p))) (by kernel_rfl) (f67t45 N (K := seqK (fun σ => f67i N (f67c 1019836823) .n σ (joinK (some f67l10) K)) (joinK (some f67l10) K)) ..) (fx13 fun a b c d e f g h i j l m o => f67t53 N a b c d e f g h i j l m o K) (by kernel_rfl)
def f67p42 : Plan := .mk (some f67l10) none .n f67p44
theorem f67t42 N a b c d e l f g m o p h i j (K : KT ρ) : f67i N (f67c 214530455) f67p42 (f67s11 a b c d e l f g m o p h i j) (joinK (some f67l10) K) =
  impl_factors.Z42 N a b c d e l f g m o p h i j (fun a b c d e l f g m o h i j => K .nrm (f67s10 a b c d e l f g m o h i j)) (fun a b c d e f g h i j => K (.exit 4) (f67s8 a b c d e f g h i j)) (fun q => K .ret (f67s21 q)) :=
 viaSeqS (fun k => impl_factors.Z43 N a b c d e l f g m o p h i j k (fun a b c d e f g h i j => K (.exit 4) (f67s8 a b c d e f g h i j))) (by kernel_rfl) (f67t43 N (K := seqK (fun σ => f67i N (f67c 482965911) f67p44 σ (joinK (some f67l10) K)) (joinK (some f67l10) K)) ..) (fx13 fun a b c d e l f g m o h i j => f67t44 N a b c d e l f g m o h i j K) (by kernel_rfl)
def f67p40 : Plan := .mk (some f67l11) none .n f67p42
theorem f67t40 N a b c d e l f g m o h i j (K : KT ρ) : f67i N (f67c 80312727) f67p40 (f67s10 a b c d e l f g m o h i j) (joinK (some f67l10) K) =
  impl_factors.Z40 N a b c d e l f g m o h i j (fun a b c d e l f g m o h i j => K .nrm (f67s10 a b c d e l f g m o h i j)) (fun a b c d e f g h i j => K (.exit 4) (f67s8 a b c d e f g h i j)) (fun p => K .ret (f67s21 p)) :=
 viaSeqS (fun k => impl_factors.Z41 N a b c d e l f g m o h i j k) (by kernel_rfl) (f67t41 N (K := seqK (fun σ => f67i N (f67c 214530455) f67p42 σ (joinK (some f67l10) K)) (joinK (some f67l10) K)) ..) (fx14 fun a b c d e l f g m o q h i j => f67t42 N a b c d e l f g m o q h i j K) (by kernel_rfl)
def f67p39 : Plan := .mk none (some f67l10) f67p40 .n
abbrev f67w39 {ρ : Type} (N M : Nat) (σ : St) (K : KT ρ) : Option ρ := loopC (fun σ K => f67i N (f67c 80312727) f67p40 σ K) f67l10 M σ K
theorem f67t39L {ρ : Type} (N : Nat) (K : KT ρ) : ∀ (M : Nat) (a b c d : LI) (e l f g m o h i : Int) (j : LI), f67w39 N M (f67s10 a b c d e l f g m o h i j) K =
 impl_factors.Z39L N (fun a b c d e f g h i j => K (.exit 4) (f67s8 a b c d e f g h i j)) (fun p => K .ret (f67s21 p)) M a b c d e l f g m o h i j
 | 0, _, _, _, _, _, _, _, _, _, _, _, _, _ => rfl
 | M + 1, a, b, c, d, e, l, f, g, m, o, h, i, j => viaRoundS (fun k => impl_factors.Z40 N a b c d e l f g m o h i j k (fun a b c d e f g h i j => K (.exit 4) (f67s8 a b c d e f g h i j)) (fun p => K .ret (f67s21 p))) (f67t40 N (K := seqK (fun σ => f67w39 N M σ K) K) ..) (fx13 fun a b c d e l f g m o h i j => f67t39L N K M a b c d e l f g m o h i j) (by kernel_rfl)
theorem f67t39 N a b c d e l f g m o h i j (K : KT ρ) : f67i N (f67c 46758295) f67p39 (f67s10 a b c d e l f g m o h i j) (joinK (some f67l8) K) =
  impl_factors.Z39 N a b c d e l f g m o h i j (fun a b c d e f g h i j => K (.exit 4) (f67s8 a b c d e f g h i j)) (fun p => K .ret (f67s21 p)) :=
 viaLoopS (by kernel_rfl) (f67t39L N (joinK (some f67l8) K) N a b c d e l f g m o h i j) (by kernel_rfl)
def f67p38 : Plan := .mk (some f67l8) none f67p39 .n
theorem f67t38 N a b c d e l f g m o h i j (K : KT ρ) : f67i N (f67c 29981079) f67p38 (f67s10 a b c d e l f g m o h i j) (joinK (some f67l8) K) =
  impl_factors.Z38 N a b c d e l f g m o h i j (fun a b c d e f g h i j => K .nrm (f67s8 a b c d e f g h i j)) (fun p => K .ret (f67s21 p)) :=
 viaBlockS (by kernel_rfl) (f67t39 N (K := blockK 4 (joinK (some f67l8) K)) ..) (by kernel_rfl)
def f67p36 : Plan := .mk (some f67l10) none .n f67p38
theorem f67t36 N a b c d e l f g h i j (K : KT ρ) : f67i N (f67c 13203863) f67p36 (f67s9 a b c d e l f g h i j) (joinK (some f67l8) K) =
  impl_factors.Z36 N a b c d e l f g h i j (fun a b c d e f g h i j => K .nrm (f67s8 a b c d e f g h i j)) (fun m => K .ret (f67s21 m)) :=
 viaSeqS (fun k => impl_factors.Z37 N a b c d e l f g h i j k) (by kernel_rfl) (f67t37 N (K := seqK (fun σ => f67i N (f67c 29981079) f67p38 σ (joinK (some f67l8) K)) (joinK (some f67l8) K)) ..) (fx13 fun a b c d e l f g o p h i j => f67t38 N a b c d e l f g o p h i j K) (by kernel_rfl)
def f67p34 : Plan := .mk (some f67l9) none .n f67p36
theorem f67t34 N a b c d e f g h i j (K : KT ρ) : f67i N (f67c 4815255) f67p34 (f67s8 a b c d e f g h i j) (joinK (some f67l8) K) =
  impl_factors.Z34 N a b c d e f g h i j (fun a b c d e f g h i j => K .nrm (f67s8 a b c d e f g h i j)) (fun l => K .ret (f67s21 l)) :=
 viaSeqS (fun k => impl_factors.Z35 N a b c d e f g h i j k) (by kernel_rfl) (f67t35 N (K := seqK (fun σ => f67i N (f67c 13203863) f67p36 σ (joinK (some f67l8) K)) (joinK (some f67l8) K)) ..) (fx11 fun a b c d e m f g h i j => f67t36 N a b c d e m f g h i j K) (by kernel_rfl)
def f67p33 : Plan := .mk (some f67l8) none f67p34 .n
theorem f67t33 N a b c d e f g h i j (K : KT ρ) : f67i N (f67c 2718103) f67p33 (f67s8 a b c d e f g h i j) (joinK (some f67l8) K) =
  impl_factors.Z33 N a b c d e f g h i j (fun a b c d e f g h i j => K .nrm (f67s8 a b c d e f g h i j)) (fun l => K .ret (f67s21 l)) :=
 viaBlockS (by kernel_rfl) (f67t34 N (K := blockK 3 (joinK (some f67l8) K)) ..) (by kernel_rfl)
theorem f67t54 N a b c d e f g h i j (K : KT ρ) : f67i N (f67c 3766679) .n (f67s8 a b c d e f g h i j) (joinK (some f67l8) K) =
 impl_factors.Z54 N a b c d e f g h i j (fun a b c d e f g h i j => K .nrm (f67s8 a b c d e f g h i j)) := by kernel_rfl
def f67p32 : Plan := .mk (some f67l8) none f67p33 .n
theorem f67t32 N a b c d e f g h i j (K : KT ρ) : f67i N (f67c 1669527) f67p32 (f67s8 a b c d e f g h i j) (joinK (some f67l8) K) =
  impl_factors.Z32 N a b c d e f g h i j (fun a b c d e f g h i j => K .nrm (f67s8 a b c d e f g h i j)) (fun l => K .ret (f67s21 l)) :=
 viaSeqS (fun k => impl_factors.Z33 N a b c d e f g h i j k (fun l => K .ret (f67s21 l))) (by kernel_rfl) (f67t33 N (K := seqK (fun σ => f67i N (f67c 3766679) .n σ (joinK (some f67l8) K)) (joinK (some f67l8) K)) ..) (fx10 fun a b c d e f g h i j => f67t54 N a b c d e f g h i j K) (by kernel_rfl)
def f67p30 : Plan := .mk (some f67l8) none .n f67p32
theorem f67t30 N a b c d j e f g h i (K : KT ρ) : f67i N (f67c 620951) f67p30 (f67s8 a b c d j e f g h i) (joinK (some f67l8) K) =
  impl_factors.Z30 N a b c d j e f g h i (fun a b c d j e f g h i => K .nrm (f67s8 a b c d j e f g h i)) (fun a b c d e f g h i => K (.exit 2) (f67s7 a b c d e f g h i)) (fun l => K .ret (f67s21 l)) :=
 viaSeqS (fun k => impl_factors.Z31 N a b c d j e f g h i k (fun a b c d e f g h i => K (.exit 2) (f67s7 a b c d e f g h i))) (by kernel_rfl) (f67t31 N (K := seqK (fun σ => f67i N (f67c 1669527) f67p32 σ (joinK (some f67l8) K)) (joinK (some f67l8) K)) ..) (fx10 fun a b c d j e f g h i => f67t32 N a b c d j e f g h i K) (by kernel_rfl)
def f67p29 : Plan := .mk none (some f67l8) f67p30 .n
abbrev f67w29 {ρ : Type} (N M : Nat) (σ : St) (K : KT ρ) : Option ρ := loopC (fun σ K => f67i N (f67c 620951) f67p30 σ K) f67l8 M σ K
theorem f67t29L {ρ : Type} (N : Nat) (K : KT ρ) : ∀ (M : Nat) (a b c d : LI) (j e f g h : Int) (i : LI), f67w29 N M (f67s8 a b c d j e f g h i) K =
 impl_factors.Z29L N (fun a b c d e f g h i => K (.exit 2) (f67s7 a b c d e f g h i)) (fun l => K .ret (f67s21 l)) M a b c d j e f g h i
 | 0, _, _, _, _, _, _, _, _, _, _ => rfl
 | M + 1, a, b, c, d, j, e, f, g, h, i => viaRoundS (fun k => impl_factors.Z30 N a b c d j e f g h i k (fun a b c d e f g h i => K (.exit 2) (f67s7 a b c d e f g h i)) (fun l => K .ret (f67s21 l))) (f67t30 N (K := seqK (fun σ => f67w29 N M σ K) K) ..) (fx10 fun a b c d j e f g h i => f67t29L N K M a b c d j e f g h i) (by kernel_rfl)
theorem f67t29 N a b c d j e f g h i (K : KT ρ) : f67i N (f67c 358807) f67p29 (f67s8 a b c d j e f g h i) (joinK (some f67l7) K) =
  impl_factors.Z29 N a b c d j e f g h i (fun a b c d e f g h i => K (.exit 2) (f67s7 a b c d e f g h i)) (fun l => K .ret (f67s21 l)) :=
 viaLoopS (by kernel_rfl) (f67t29L N (joinK (some f67l7) K) N a b c d j e f g h i) (by kernel_rfl)
def f67p28 : Plan := .mk (some f67l7) none f67p29 .n
theorem f67t28 N a b c d j e f g h i (K : KT ρ) : f67i N (f67c 227735) f67p28 (f67s8 a b c d j e f g h i) (joinK (some f67l7) K) =
  impl_factors.Z28 N a b c d j e f g h i (fun a b c d e f g h i => K .nrm (f67s7 a b c d e f g h i)) (fun l => K .ret (f67s21 l)) :=
 viaBlockS (by kernel_rfl) (f67t29 N (K := blockK 2 (joinK (some f67l7) K)) ..) (by kernel_rfl)
def f67p26 : Plan := .mk (some f67l8) none .n f67p28
theorem f67t26 N a b c d e f g h i (K : KT ρ) : f67i N (f67c 96663) f67p26 (f67s7 a b c d e f g h i) (joinK (some f67l7) K) =
  impl_factors.Z26 N a b c d e f g h i (fun a b c d e f g h i => K .nrm (f67s7 a b c d e f g h i)) (fun j => K .ret (f67s21 j)) :=
 viaSeqS (fun k => impl_factors.Z27 N a b c d e f g h i k) (by kernel_rfl) (f67t27 N (K := seqK (fun σ => f67i N (f67c 227735) f67p28 σ (joinK (some f67l7) K)) (joinK (some f67l7) K)) ..) (fx10 fun a b c d l e f g h i => f67t28 N a b c d l e f g h i K) (by kernel_rfl)
theorem f67t56 N a b c d e f g h i (K : KT ρ) : f67i N (f67c 194967) .n (f67s7 a b c d e f g h i) (joinK (some f67l14) K) =
 impl_factors.Z56 N a b c d e f g h i (fun a b c d j e f g h i => K .nrm (f67s14 a b c d j e f g h i)) := by kernel_rfl
theorem f67t59 N a b c d e f g h i j (K : KT ρ) : f67i N (f67c 653719) .n (f67s14 a b c d e f g h i j) (joinK (some f67l15) K) =
 impl_factors.Z59 N a b c d e f g h i j (fun a b c d e f g l m h i j => K .nrm (f67s15 a b c d e f g l m h i j)) := by kernel_rfl
theorem f67t62 N a b c d e f g l m h i j (K : KT ρ) : f67i N (f67c 2488727) .n (f67s15 a b c d e f g l m h i j) (joinK (some f67l15) K) =
 impl_factors.Z62 N a b c d e f g l m h i j (fun a b c d e f g l m h i j => K .nrm (f67s15 a b c d e f g l m h i j)) (fun a b c d e f g h i j => K (.exit 6) (f67s14 a b c d e f g h i j)) := by kernel_rfl
def f67p61 : Plan := .mk none (some f67l15) .n .n
abbrev f67w61 {ρ : Type} (N M : Nat) (σ : St) (K : KT ρ) : Option ρ := loopC (fun σ K => f67i N (f67c 2488727) .n σ K) f67l15 M σ K
theorem f67t61L {ρ : Type} (N : Nat) (K : KT ρ) : ∀ (M : Nat) (a b c d : LI) (e f g l m h i : Int) (j : LI), f67w61 N M (f67s15 a b c d e f g l m h i j) K =
 impl_factors.Z61L N (fun a b c d e f g h i j => K (.exit 6) (f67s14 a b c d e f g h i j)) M a b c d e f g l m h i j
 | 0, _, _, _, _, _, _, _, _, _, _, _, _ => rfl
 | M + 1, a, b, c, d, e, f, g, l, m, h, i, j => viaRoundS (fun k => impl_factors.Z62 N a b c d e f g l m h i j k (fun a b c d e f g h i j => K (.exit 6) (f67s14 a b c d e f g h i j))) (f67t62 N (K := seqK (fun σ => f67w61 N M σ K) K) ..) (fx12 fun a b c d e f g l m h i j => f67t61L N K M a b c d e f g l m h i j) (by kernel_rfl)
theorem f67t61 N a b c d e f g l m h i j (K : KT ρ) : f67i N (f67c 1440151) f67p61 (f67s15 a b c d e f g l m h i j) (joinK (some f67l14) K) =
  impl_factors.Z61 N a b c d e f g l m h i j (fun a b c d e f g h i j => K (.exit 6) (f67s14 a b c d e f g h i j)) :=
 viaLoopS (by kernel_rfl) (f67t61L N (joinK (some f67l14) K) N a b c d e f g l m h i j) (by kernel_rfl)
def f67p60 : Plan := .mk (some f67l14) none f67p61 .n
theorem f67t60 N a b c d e f g l m h i j (K : KT ρ) : f67i N (f67c 915863) f67p60 (f67s15 a b c d e f g l m h i j) (joinK (some f67l14) K) =
  impl_factors.Z60 N a b c d e f g l m h i j (fun a b c d e f g h i j => K .nrm (f67s14 a b c d e f g h i j)) :=
 viaBlockS (by kernel_rfl) (f67t61 N (K := blockK 6 (joinK (some f67l14) K)) ..) (by kernel_rfl)
def f67p58 : Plan := .mk (some f67l15) none .n f67p60
theorem f67t58 N a b c d e f g h i j (K : KT ρ) : f67i N (f67c 391575) f67p58 (f67s14 a b c d e f g h i j) (joinK (some f67l14) K) =
  impl_factors.Z58 N a b c d e f g h i j (fun a b c d e f g h i j => K .nrm (f67s14 a b c d e f g h i j)) :=
 viaSeqS (fun k => impl_factors.Z59 N a b c d e f g h i j k) (by kernel_rfl) (f67t59 N (K := seqK (fun σ => f67i N (f67c 915863) f67p60 σ (joinK (some f67l14) K)) (joinK (some f67l14) K)) ..) (fx12 fun a b c d e f g l m h i j => f67t60 N a b c d e f g l m h i j K) (by kernel_rfl)
theorem f67t64 N a b c d e f g h i j (K : KT ρ) : f67i N (f67c 784791) .n (f67s14 a b c d e f g h i j) (joinK (some f67l16) K) =
 impl_factors.Z64 N a b c d e f g h i j (fun a b c d e l f g h i j => K .nrm (f67s16 a b c d e l f g h i j)) := by kernel_rfl
theorem f67t67 N a b c d e f g h i j l (K : KT ρ) : f67i N (f67c 2619799) .n (f67s16 a b c d e f g h i j l) (joinK (some f67l17) K) =
 impl_factors.Z67 N a b c d e f g h i j l (fun a b c d e f g h m o i j l => K .nrm (f67s17 a b c d e f g h m o i j l)) := by kernel_rfl
theorem f67t70 N a b c d l e f g m o h i j (K : KT ρ) : f67i N (f67c 9959831) .n (f67s17 a b c d l e f g m o h i j) (joinK (some f67l17) K) =
 impl_factors.Z70 N a b c d l e f g m o h i j (fun a b c d l e f g m o h i j => K .nrm (f67s17 a b c d l e f g m o h i j)) (fun a b c d e f g h i j => K (.exit 8) (f67s18 a b c d e f g h i j)) := by kernel_rfl
def f67p69 : Plan := .mk none (some f67l17) .n .n
abbrev f67w69 {ρ : Type} (N M : Nat) (σ : St) (K : KT ρ) : Option ρ := loopC (fun σ K => f67i N (f67c 9959831) .n σ K) f67l17 M σ K
theorem f67t69L {ρ : Type} (N : Nat) (K : KT ρ) : ∀ (M : Nat) (a b c d : LI) (l e f g m o h i : Int) (j : LI), f67w69 N M (f67s17 a b c d l e f g m o h i j) K =
 impl_factors.Z69L N (fun a b c d e f g h i j => K (.exit 8) (f67s18 a b c d e f g h i j)) M a b c d l e f g m o h i j
 | 0, _, _, _, _, _, _, _, _, _, _, _, _, _ => rfl
 | M + 1, a, b, c, d, l, e, f, g, m, o, h, i, j => viaRoundS (fun k => impl_factors.Z70 N a b c d l e f g m o h i j k (fun a b c d e f g h i j => K (.exit 8) (f67s18 a b c d e f g h i j))) (f67t70 N (K := seqK (fun σ => f67w69 N M σ K) K) ..) (fx13 fun a b c d l e f g m o h i j => f67t69L N K M a b c d l e f g m o h i j) (by kernel_rfl)
theorem f67t69 N a b c d l e f g m o h i j (K : KT ρ) : f67i N (f67c 5765527) f67p69 (f67s17 a b c d l e f g m o h i j) (joinK (some f67l18) K) =
  impl_factors.Z69 N a b c d l e f g m o h i j (fun a b c d e f g h i j => K (.exit 8) (f67s18 a b c d e f g h i j)) :=
 viaLoopS (by kernel_rfl) (f67t69L N (joinK (some f67l18) K) N a b c d l e f g m o h i j) (by kernel_rfl)
def f67p68 : Plan := .mk (some f67l18) none f67p69 .n
theorem f67t68 N a b c d l e f g m o h i j (K : KT ρ) : f67i N (f67c 3668375) f67p68 (f67s17 a b c d l e f g m o h i j) (joinK (some f67l18) K) =
  impl_factors.Z68 N a b c d l e f g m o h i j (fun a b c d e f g h i j => K .nrm (f67s18 a b c d e f g h i j)) :=
 viaBlockS (by kernel_rfl) (f67t69 N (K := blockK 8 (joinK (some f67l18) K)) ..) (by kernel_rfl)
def f67p66 : Plan := .mk (some f67l17) none .n f67p68
theorem f67t66 N a b c d l e f g h i j (K : KT ρ) : f67i N (f67c 1571223) f67p66 (f67s16 a b c d l e f g h i j) (joinK (some f67l18) K) =
  impl_factors.Z66 N a b c d l e f g h i j (fun a b c d e f g h i j => K .nrm (f67s18 a b c d e f g h i j)) :=
 viaSeqS (fun k => impl_factors.Z67 N a b c d l e f g h i j k) (by kernel_rfl) (f67t67 N (K := seqK (fun σ => f67i N (f67c 3668375) f67p68 σ (joinK (some f67l18) K)) (joinK (some f67l18) K)) ..) (fx13 fun a b c d l e f g m o h i j => f67t68 N a b c d l e f g m o h i j K) (by kernel_rfl)
theorem f67t72 N a b c j d e f g h i (K : KT ρ) : f67i N (f67c 3144087) .n (f67s18 a b c j d e f g h i) (joinK (some f67l19) K) =
 impl_factors.Z72 N a b c j d e f g h i (fun a b c l d e f m o g h i => K .nrm (f67s19 a b c l d e f m o g h i)) := by kernel_rfl
theorem f67t75 N a b c i j d e l m f g h (K : KT ρ) : f67i N (f67c 10484119) .n (f67s19 a b c i j d e l m f g h) (joinK (some f67l19) K) =
 impl_factors.Z75 N a b c i j d e l m f g h (fun a b c i j d e l m f g h => K .nrm (f67s19 a b c i j d e l m f g h)) (fun a b c d e f g h => K (.exit 10) (f67s4 a b c d e f g h)) := by kernel_rfl
def f67p74 : Plan := .mk none (some f67l19) .n .n
abbrev f67w74 {ρ : Type} (N M : Nat) (σ : St) (K : KT ρ) : Option ρ := loopC (fun σ K => f67i N (f67c 10484119) .n σ K) f67l19 M σ K
theorem f67t74L {ρ : Type} (N : Nat) (K : KT ρ) : ∀ (M : Nat) (a b c i : LI) (j d e l m f g : Int) (h : LI), f67w74 N M (f67s19 a b c i j d e l m f g h) K =
 impl_factors.Z74L N (fun a b c d e f g h => K (.exit 10) (f67s4 a b c d e f g h)) M a b c i j d e l m f g h
 | 0, _, _, _, _, _, _, _, _, _, _, _, _ => rfl
 | M + 1, a, b, c, i, j, d, e, l, m, f, g, h => viaRoundS (fun k => impl_factors.Z75 N a b c i j d e l m f g h k (fun a b c d e f g h => K (.exit 10) (f67s4 a b c d e f g h))) (f67t75 N (K := seqK (fun σ => f67w74 N M σ K) K) ..) (fx12 fun a b c i j d e l m f g h => f67t74L N K M a b c i j d e l m f g h) (by kernel_rfl)
theorem f67t74 N a b c i j d e l m f g h (K : KT ρ) : f67i N (f67c 6289815) f67p74 (f67s19 a b c i j d e l m f g h) (joinK (some f67l4) K) =
  impl_factors.Z74 N a b c i j d e l m f g h (fun a b c d e f g h => K (.exit 10) (f67s4 a b c d e f g h)) :=
 viaLoopS (by kernel_rfl) (f67t74L N (joinK (some f67l4) K) N a b c i j d e l m f g h) (by kernel_rfl)
def f67p73 : Plan := .mk (some f67l4) none f67p74 .n
theorem f67t73 N a b c i j d e l m f g h (K : KT ρ) : f67i N (f67c 4192663) f67p73 (f67s19 a b c i j d e l m f g h) (joinK (some f67l4) K) =
  impl_factors.Z73 N a b c i j d e l m f g h (fun a b c d e f g h => K .nrm (f67s4 a b c d e f g h)) :=
 viaBlockS (by kernel_rfl) (f67t74 N (K := blockK 10 (joinK (some f67l4) K)) ..) (by kernel_rfl)
def f67p71 : Plan := .mk (some f67l19) none .n f67p73
theorem f67t71 N a b c j i d e f g h (K : KT ρ) : f67i N (f67c 2095511) f67p71 (f67s18 a b c j i d e f g h) (joinK (some f67l4) K) =
  impl_factors.Z71 N a b c j i d e f g h (fun a b c d e f g h => K .nrm (f67s4 a b c d e f g h)) :=
 viaSeqS (fun k => impl_factors.Z72 N a b c j i d e f g h k) (by kernel_rfl) (f67t72 N (K := seqK (fun σ => f67i N (f67c 4192663) f67p73 σ (joinK (some f67l4) K)) (joinK (some f67l4) K)) ..) (fx12 fun a b c l i d e m o f g h => f67t73 N a b c l i d e m o f g h K) (by kernel_rfl)
def f67p65 : Plan := .mk (some f67l18) none f67p66 f67p71
theorem f67t65 N a b c i l j d e f g h (K : KT ρ) : f67i N (f67c 1046935) f67p65 (f67s16 a b c i l j d e f g h) (joinK (some f67l4) K) =
  impl_factors.Z65 N a b c i l j d e f g h (fun a b c d e f g h => K .nrm (f67s4 a b c d e f g h)) :=
 viaSeqS (fun k => impl_factors.Z66 N a b c i l j d e f g h k) (by kernel_rfl) (f67t66 N (K := seqK (fun σ => f67i N (f67c 2095511) f67p71 σ (joinK (some f67l4) K)) (joinK (some f67l4) K)) ..) (fx10 fun a b c i j d e f g h => f67t71 N a b c i j d e f g h K) (by kernel_rfl)
def f67p63 : Plan := .mk (some f67l16) none .n f67p65
theorem f67t63 N a b c i j d e f g h (K : KT ρ) : f67i N (f67c 522647) f67p63 (f67s14 a b c i j d e f g h) (joinK (some f67l4) K) =
  impl_factors.Z63 N a b c i j d e f g h (fun a b c d e f g h => K .nrm (f67s4 a b c d e f g h)) :=
 viaSeqS (fun k => impl_factors.Z64 N a b c i j d e f g h k) (by kernel_rfl) (f67t64 N (K := seqK (fun σ => f67i N (f67c 1046935) f67p65 σ (joinK (some f67l4) K)) (joinK (some f67l4) K)) ..) (fx11 fun a b c i j l d e f g h => f67t65 N a b c i j l d e f g h K) (by kernel_rfl)
def f67p57 : Plan := .mk (some f67l14) none f67p58 f67p63
theorem f67t57 N a b c i j d e f g h (K : KT ρ) : f67i N (f67c 260503) f67p57 (f67s14 a b c i j d e f g h) (joinK (some f67l4) K) =
  impl_factors.Z57 N a b c i j d e f g h (fun a b c d e f g h => K .nrm (f67s4 a b c d e f g h)) :=
 viaSeqS (fun k => impl_factors.Z58 N a b c i j d e f g h k) (by kernel_rfl) (f67t58 N (K := seqK (fun σ => f67i N (f67c 522647) f67p63 σ (joinK (some f67l4) K)) (joinK (some f67l4) K)) ..) (fx10 fun a b c i j d e f g h => f67t63 N a b c i j d e f g h K) (by kernel_rfl)
def f67p55 : Plan := .mk (some f67l14) none .n f67p57
theorem f67t55 N a b c i d e f g h (K : KT ρ) : f67i N (f67c 129431) f67p55 (f67s7 a b c i d e f g h) (joinK (some f67l4) K) =
  impl_factors.Z55 N a b c i d e f g h (fun a b c d e f g h => K .nrm (f67s4 a b c d e f g h)) :=
 viaSeqS (fun k => impl_factors.Z56 N a b c i d e f g h k) (by kernel_rfl) (f67t56 N (K := seqK (fun σ => f67i N (f67c 260503) f67p57 σ (joinK (some f67l4) K)) (joinK (some f67l4) K)) ..) (fx10 fun a b c i j d e f g h => f67t57 N a b c i j d e f g h K) (by kernel_rfl)
def f67p25 : Plan := .mk (some f67l7) none f67p26 f67p55
theorem f67t25 N a b c i d e f g h (K : KT ρ) : f67i N (f67c 63895) f67p25 (f67s7 a b c i d e f g h) (joinK (some f67l4) K) =
  impl_factors.Z25 N a b c i d e f g h (fun a b c d e f g h => K .nrm (f67s4 a b c d e f g h)) (fun j => K .ret (f67s21 j)) :=
 viaSeqS (fun k => impl_factors.Z26 N a b c i d e f g h k (fun j => K .ret (f67s21 j))) (by kernel_rfl) (f67t26 N (K := seqK (fun σ => f67i N (f67c 129431) f67p55 σ (joinK (some f67l4) K)) (joinK (some f67l4) K)) ..) (fx9 fun a b c i d e f g h => f67t55 N a b c i d e f g h K) (by kernel_rfl)
def f67p23 : Plan := .mk (some f67l7) none .n f67p25
theorem f67t23 N a b c i d e f g h (K : KT ρ) : f67i N (f67c 31127) f67p23 (f67s6 a b c i d e f g h) (joinK (some f67l4) K) =
  impl_factors.Z23 N a b c i d e f g h (fun a b c d e f g h => K .nrm (f67s4 a b c d e f g h)) (fun j => K .ret (f67s21 j)) :=
 viaSeqS (fun k => impl_factors.Z24 N a b c i d e f g h k) (by kernel_rfl) (f67t24 N (K := seqK (fun σ => f67i N (f67c 63895) f67p25 σ (joinK (some f67l4) K)) (joinK (some f67l4) K)) ..) (fx9 fun a b c l d e f g h => f67t25 N a b c l d e f g h K) (by kernel_rfl)
def f67p21 : Plan := .mk (some f67l6) none .n f67p23
theorem f67t21 N a b c i d e f g h (K : KT ρ) : f67i N (f67c 14743) f67p21 (f67s6 a b c i d e f g h) (joinK (some f67l4) K) =
  impl_factors.Z21 N a b c i d e f g h (fun a b c d e f g h => K .nrm (f67s4 a b c d e f g h)) (fun j => K .ret (f67s21 j)) :=
 viaSeqS (fun k => impl_factors.Z22 N a b c i d e f g h k) (by kernel_rfl) (f67t22 N (K := seqK (fun σ => f67i N (f67c 31127) f67p23 σ (joinK (some f67l4) K)) (joinK (some f67l4) K)) ..) (fx9 fun a b c i d e f g h => f67t23 N a b c i d e f g h K) (by kernel_rfl)
def f67p19 : Plan := .mk (some f67l6) none .n f67p21
theorem f67t19 N a b c i d e f g h (K : KT ρ) : f67i N (f67c 6551) f67p19 (f67s6 a b c i d e f g h) (joinK (some f67l4) K) =
  impl_factors.Z19 N a b c i d e f g h (fun a b c d e f g h => K .nrm (f67s4 a b c d e f g h)) (fun a b c d e f g h => K (.exit 1) (f67s4 a b c d e f g h)) (fun j => K .ret (f67s21 j)) :=
 viaSeqS (fun k => impl_factors.Z20 N a b c i d e f g h k (fun a b c d e f g h => K (.exit 1) (f67s4 a b c d e f g h))) (by kernel_rfl) (f67t20 N (K := seqK (fun σ => f67i N (f67c 14743) f67p21 σ (joinK (some f67l4) K)) (joinK (some f67l4) K)) ..) (fx9 fun a b c i d e f g h => f67t21 N a b c i d e f g h K) (by kernel_rfl)
def f67p17 : Plan := .mk (some f67l6) none .n f67p19
theorem f67t17 N a b c d e f g h (K : KT ρ) : f67i N (f67c 2455) f67p17 (f67s4 a b c d e f g h) (joinK (some f67l4) K) =
  impl_factors.Z17 N a b c d e f g h (fun a b c d e f g h => K .nrm (f67s4 a b c d e f g h)) (fun a b c d e f g h => K (.exit 1) (f67s4 a b c d e f g h)) (fun i => K .ret (f67s21 i)) :=
 viaSeqS (fun k => impl_factors.Z18 N a b c d e f g h k) (by kernel_rfl) (f67t18 N (K := seqK (fun σ => f67i N (f67c 6551) f67p19 σ (joinK (some f67l4) K)) (joinK (some f67l4) K)) ..) (fx9 fun a b c j d e f g h => f67t19 N a b c j d e f g h K) (by kernel_rfl)
def f67p16 : Plan := .mk (some f67l4) none f67p17 .n
theorem f67t16 N a b c d e f g h (K : KT ρ) : f67i N (f67c 1431) f67p16 (f67s4 a b c d e f g h) (joinK (some f67l4) K) =
  impl_factors.Z16 N a b c d e f g h (fun a b c d e f g h => K .nrm (f67s4 a b c d e f g h)) (fun i => K .ret (f67s21 i)) :=
 viaBlockS (by kernel_rfl) (f67t17 N (K := blockK 1 (joinK (some f67l4) K)) ..) (by kernel_rfl)
theorem f67t76 N a b c d e f g h (K : KT ρ) : f67i N (f67c 1943) .n (f67s4 a b c d e f g h) (joinK (some f67l4) K) =
 impl_factors.Z76 N a b c d e f g h (fun a b c d e f g h => K .nrm (f67s4 a b c d e f g h)) := by kernel_rfl
def f67p15 : Plan := .mk (some f67l4) none f67p16 .n
theorem f67t15 N a b c d e f g h (K : KT ρ) : f67i N (f67c 919) f67p15 (f67s4 a b c d e f g h) (joinK (some f67l4) K) =
  impl_factors.Z15 N a b c d e f g h (fun a b c d e f g h => K .nrm (f67s4 a b c d e f g h)) (fun i => K .ret (f67s21 i)) :=
 viaSeqS (fun k => impl_factors.Z16 N a b c d e f g h k (fun i => K .ret (f67s21 i))) (by kernel_rfl) (f67t16 N (K := seqK (fun σ => f67i N (f67c 1943) .n σ (joinK (some f67l4) K)) (joinK (some f67l4) K)) ..) (fx8 fun a b c d e f g h => f67t76 N a b c d e f g h K) (by kernel_rfl)
def f67p13 : Plan := .mk (some f67l4) none .n f67p15
theorem f67t13 N b c a d e i f g h (K : KT ρ) : f67i N (f67c 407) f67p13 (f67s5 b c a d e i f g h) (joinK (some f67l4) K) =
  impl_factors.Z13 N b c a d e i f g h (fun b c a d e f g h => K .nrm (f67s4 b c a d e f g h)) (fun a => K (.exit 0) (f67s20 a)) (fun j => K .ret (f67s21 j)) :=
 viaSeqS (fun k => impl_factors.Z14 N b c a d e i f g h k (fun a => K (.exit 0) (f67s20 a))) (by kernel_rfl) (f67t14 N (K := seqK (fun σ => f67i N (f67c 919) f67p15 σ (joinK (some f67l4) K)) (joinK (some f67l4) K)) ..) (fx8 fun b c a d e f g h => f67t15 N b c a d e f g h K) (by kernel_rfl)
def f67p11 : Plan := .mk (some f67l5) none .n f67p13
theorem f67t11 N b c a d e f g h (K : KT ρ) : f67i N (f67c 151) f67p11 (f67s4 b c a d e f g h) (joinK (some f67l4) K) =
  impl_factors.Z11 N b c a d e f g h (fun b c a d e f g h => K .nrm (f67s4 b c a d e f g h)) (fun a => K (.exit 0) (f67s20 a)) (fun i => K .ret (f67s21 i)) :=
 viaSeqS (fun k => impl_factors.Z12 N b c a d e f g h k) (by kernel_rfl) (f67t12 N (K := seqK (fun σ => f67i N (f67c 407) f67p13 σ (joinK (some f67l4) K)) (joinK (some f67l4) K)) ..) (fx9 fun b c a d e j f g h => f67t13 N b c a d e j f g h K) (by kernel_rfl)
def f67p10 : Plan := .mk none (some f67l4) f67p11 .n
abbrev f67w10 {ρ : Type} (N M : Nat) (σ : St) (K : KT ρ) : Option ρ := loopC (fun σ K => f67i N (f67c 151) f67p11 σ K) f67l4 M σ K
theorem f67t10L {ρ : Type} (N : Nat) (K : KT ρ) : ∀ (M : Nat) (b c a : LI) (d e f g : Int) (h : LI), f67w10 N M (f67s4 b c a d e f g h) K =
 impl_factors.Z10L N (fun a => K (.exit 0) (f67s20 a)) (fun i => K .ret (f67s21 i)) M b c a d e f g h
 | 0, _, _, _, _, _, _, _, _ => rfl
 | M + 1, b, c, a, d, e, f, g, h => viaRoundS (fun k => impl_factors.Z11 N b c a d e f g h k (fun a => K (.exit 0) (f67s20 a)) (fun i => K .ret (f67s21 i))) (f67t11 N (K := seqK (fun σ => f67w10 N M σ K) K) ..) (fx8 fun b c a d e f g h => f67t10L N K M b c a d e f g h) (by kernel_rfl)
theorem f67t10 N b c a d e f g h (K : KT ρ) : f67i N (f67c 87) f67p10 (f67s4 b c a d e f g h) (joinK (some f67l20) K) =
  impl_factors.Z10 N b c a d e f g h (fun a => K (.exit 0) (f67s20 a)) (fun i => K .ret (f67s21 i)) :=
 viaLoopS (by kernel_rfl) (f67t10L N (joinK (some f67l20) K) N b c a d e f g h) (by kernel_rfl)
def f67p9 : Plan := .mk (some f67l20) none f67p10 .n
theorem f67t9 N b c a d e f g h (K : KT ρ) : f67i N (f67c 55) f67p9 (f67s4 b c a d e f g h) (joinK (some f67l20) K) =
  impl_factors.Z9 N b c a d e f g h (fun a => K .nrm (f67s20 a)) (fun i => K .ret (f67s21 i)) :=
 viaBlockS (by kernel_rfl) (f67t10 N (K := blockK 0 (joinK (some f67l20) K)) ..) (by kernel_rfl)
def f67p7 : Plan := .mk (some f67l4) none .n f67p9
theorem f67t7 N b c a d e f (K : KT ρ) : f67i N (f67c 23) f67p7 (f67s3 b c a d e f) (joinK (some f67l20) K) =
  impl_factors.Z7 N b c a d e f (fun a => K .nrm (f67s20 a)) (fun g => K .ret (f67s21 g)) :=
 viaSeqS (fun k => impl_factors.Z8 N b c a d e f k) (by kernel_rfl) (f67t8 N (K := seqK (fun σ => f67i N (f67c 55) f67p9 σ (joinK (some f67l20) K)) (joinK (some f67l20) K)) ..) (fx8 fun b c a h i d e f => f67t9 N b c a h i d e f K) (by kernel_rfl)
theorem f67t77 N a (K : KT ρ) : f67i N (f67c 31) .n (f67s20 a) (joinK (some f67lE) K) =
 impl_factors.Z77 N a (fun b => K .ret (f67s21 b)) := by kernel_rfl
def f67p6 : Plan := .mk (some f67l20) none f67p7 .n
theorem f67t6 N b c a d e f (K : KT ρ) : f67i N (f67c 15) f67p6 (f67s3 b c a d e f) (joinK (some f67lE) K) =
  impl_factors.Z6 N b c a d e f (fun g => K .ret (f67s21 g)) :=
 viaSeqS (fun k => impl_factors.Z7 N b c a d e f k (fun g => K .ret (f67s21 g))) (by kernel_rfl) (f67t7 N (K := seqK (fun σ => f67i N (f67c 31) .n σ (joinK (some f67lE) K)) (joinK (some f67lE) K)) ..) (funext fun a => f67t77 N a K) (by kernel_rfl)
def f67p4 : Plan := .mk (some f67l3) none .n f67p6
theorem f67t4 N a b c d e (K : KT ρ) : f67i N (f67c 7) f67p4 (f67s2 a b c d e) (joinK (some f67lE) K) =
  impl_factors.Z4 N a b c d e (fun f => K .ret (f67s21 f)) :=
 viaSeqS (fun k => impl_factors.Z5 N a b c d e k) (by kernel_rfl) (f67t5 N (K := seqK (fun σ => f67i N (f67c 15) f67p6 σ (joinK (some f67lE) K)) (joinK (some f67lE) K)) ..) (fx6 fun a b g c d e => f67t6 N a b g c d e K) (by kernel_rfl)
def f67p2 : Plan := .mk (some f67l2) none .n f67p4
theorem f67t2 N a b c (K : KT ρ) : f67i N (f67c 3) f67p2 (f67s1 a b c) (joinK (some f67lE) K) =
  impl_factors.Z2 N a b c (fun d => K .ret (f67s21 d)) :=
 viaSeqS (fun k => impl_factors.Z3 N a b c k) (by kernel_rfl) (f67t3 N (K := seqK (fun σ => f67i N (f67c 7) f67p4 σ (joinK (some f67lE) K)) (joinK (some f67lE) K)) ..) (fx5 fun e f a b c => f67t4 N e f a b c K) (by kernel_rfl)
def f67p0 : Plan := .mk (some f67l1) none .n f67p2
theorem f67t0 N a (K : KT ρ) : f67i N (f67c 1) f67p0 (f67s0 a) (joinK (some f67lE) K) =
  impl_factors.Z0 N a (fun b => K .ret (f67s21 b)) :=
 viaSeqS (fun k => impl_factors.Z1 N a k) (by kernel_rfl) (f67t1 N (K := seqK (fun σ => f67i N (f67c 3) f67p2 σ (joinK (some f67lE) K)) (joinK (some f67lE) K)) ..) (fx3 fun c d e => f67t2 N c d e K) (by kernel_rfl)
theorem f67m (N : Nat) (a : MT) : f67i N (f67c 1) f67p0 (f67s0 a) (joinK (some f67lE) (finK tab f67sig Try.f67.results.toList)) = impl_factors.Z0 N a (fun b => some ((), (b, ()))) :=
 (f67t0 N a (finK tab f67sig Try.f67.results.toList)).trans (by kernel_rfl)
theorem f67ok (h : impl_factors.Spec) : EntryOk Try.prog 67 e67 :=
 entry_of_code (sig := f67sig) (c := (f67c 1)) (pl := f67p0) (je := (some f67lE)) (B := f67B) Try.func67 (by kernel_rfl) (by kernel_rfl) (by kernel_rfl) tabOk f67GOk (by kernel_rfl) (by kernel_rfl) (by kernel_rfl) (by kernel_rfl) fun X hb hp => by
  obtain ⟨a, _⟩ := X
  obtain ⟨N, h⟩ := h a hb.1 hp
  exact ⟨N, (f67m N a).trans (h N (Nat.le_refl N))⟩
theorem e67ok : EntryOk Try.prog 67 e67 := f67ok impl_factors.ok
end Go.Fw
namespace Go.Fw
variable {ρ : Type}
open Go.Proofs
def f33sig : Sig := ⟨[⟨.pair (.int .i64) (.pair (.int .i64) (.sl 3 (.int .i64))), true, false⟩], [⟨.bool, false, false⟩]⟩
def e33 : Entry := ⟨f33sig, none, fun X => ((), ((impl_MatrixOk.g X.1), ()))⟩
def f33G : Gm := addG (addG emptyG 66 e66) 67 e67
theorem f33GOk : GOk Try.prog f33G := ((GOk.nil).add e66ok (by kernel_rfl)).add e67ok (by kernel_rfl)
def f33lE : Clean := ⟨[], [], [], [], []⟩
def f33s0 (a : MT) : St := initSt f33sig.ps (a, ())
def f33s1 (a : Bool) : St := stOf [(2, xB a)] [] []
def f33l1 : Clean := ⟨[2], [], [], [], []⟩
def f33B : Nat → Option Clean := lookL [(1000000, f33l1)]
abbrev f33i {ρ : Type} (N : Nat) (c : Code) (p : Plan) (σ : St) (K : KT ρ) : Option ρ := iCode f33G tab f33B N c p σ K
def f33c (n : Nat) : Code := codeN 99 (bodyOf Try.f33) n
theorem f33t0 N a (K : KT ρ) : f33i N (f33c 1) .n (f33s0 a) (joinK (some f33lE) K) =
 impl_MatrixOk.Z0 N a (fun b => K .ret (f33s1 b)) := by kernel_rfl
theorem f33m (N : Nat) (a : MT) : f33i N (f33c 1) .n (f33s0 a) (joinK (some f33lE) (finK tab f33sig Try.f33.results.toList)) = impl_MatrixOk.Z0 N a (fun b => some ((), (b, ()))) :=
 (f33t0 N a (finK tab f33sig Try.f33.results.toList)).trans (by kernel_rfl)
theorem f33ok (h : impl_MatrixOk.Spec) : EntryOk Try.prog 33 e33 :=
 entry_of_code (sig := f33sig) (c := (f33c 1)) (pl := .n) (je := (some f33lE)) (B := f33B) Try.func33 (by kernel_rfl) (by kernel_rfl) (by kernel_rfl) tabOk f33GOk (by kernel_rfl) (by kernel_rfl) (by kernel_rfl) (by kernel_rfl) fun X hb hp => by
  obtain ⟨a, _⟩ := X
  obtain ⟨N, h⟩ := h a hb.1
  exact ⟨N, (f33m N a).trans (h N (Nat.le_refl N))⟩
theorem e33ok : EntryOk Try.prog 33 e33 := f33ok impl_MatrixOk.ok
end Go.Fw
namespace Go.Fw
variable {ρ : Type}
open Go.Proofs
def f40sig : Sig := ⟨[⟨.pair (.int .i64) (.pair (.int .i64) (.sl 3 (.int .i64))), true, false⟩], [⟨.bool, false, false⟩]⟩
def e40 : Entry := ⟨f40sig, none, fun X => ((), ((impl_IsAcyclic.g X.1), ()))⟩
def f40G : Gm := addG (addG emptyG 33 e33) 69 e69
theorem f40GOk : GOk Try.prog f40G := ((GOk.nil).add e33ok (by kernel_rfl)).add e69ok (by kernel_rfl)
def f40lE : Clean := ⟨[], [], [], [], []⟩
def f40s0 (a : MT) : St := initSt f40sig.ps (a, ())
def f40s1 (a b : Int) (c : LI) : St := stOf [(1, xb 1)] [(1, (47, [yi a, yi b, .sn 3 tI c none]))] []
def f40l1 : Clean := ⟨[1], [1], [], [], []⟩
def f40s2 (a b : Int) (d e : LI) : St := stOf [(1, xb 1), (3, .c (.mp 11))] [(1, (47, [yi a, yi b, .sn 3 tI d none])), (11, (1000000073, [.mset tI e]))] []
def f40l2 : Clean := ⟨[1, 3], [1, 11], [], [], []⟩
def f40s3 (a b d : Int) (e f : LI) : St := stOf [(1, xb 1), (3, .c (.mp 11)), (4, xi a)] [(1, (47, [yi b, yi d, .sn 3 tI e none])), (11, (1000000073, [.mset tI f]))] []
def f40l3 : Clean := ⟨[1, 3, 4], [1, 11], [], [], []⟩
def f40s4 (a b d e : Int) (f g : LI) : St := stOf [(1, xb 1), (3, .c (.mp 11)), (21, xi a), (22, xi b)] [(1, (47, [yi d, yi e, .sn 3 tI f none])), (11, (1000000073, [.mset tI g]))] []
def f40l4 : Clean := ⟨[1, 3, 21, 22], [1, 11], [], [], []⟩
def f40s5 (a b : Int) (d : Bool) (e f : Int) (g h : LI) : St := stOf [(1, xb 1), (3, .c (.mp 11)), (21, xi a), (22, xi b), (23, xB d)] [(1, (47, [yi e, yi f, .sn 3 tI g none])), (11, (1000000073, [.mset tI h]))] []
def f40l5 : Clean := ⟨[1, 3, 21, 22, 23], [1, 11], [], [], []⟩
def f40s6 (a b d e f g : Int) (h i : LI) : St := stOf [(1, xb 1), (3, .c (.mp 11)), (21, xi a), (22, xi b), (25, xi d), (26, xi e)] [(1, (47, [yi f, yi g, .sn 3 tI h none])), (11, (1000000073, [.mset tI i]))] []
def f40l6 : Clean := ⟨[1, 3, 21, 22, 25, 26], [1, 11], [], [], []⟩
def f40s7 (a b d e : Int) (f : Bool) (g h : Int) (i j : LI) : St := stOf [(1, xb 1), (3, .c (.mp 11)), (21, xi a), (22, xi b), (25, xi d), (26, xi e), (27, xB f)] [(1, (47, [yi g, yi h, .sn 3 tI i none])), (11, (1000000073, [.mset tI j]))] []
def f40l7 : Clean := ⟨[1, 3, 21, 22, 25, 26, 27], [1, 11], [], [], []⟩
def f40s8 (a b d e f g h : Int) (i j : LI) : St := stOf [(1, xb 1), (3, .c (.mp 11)), (5, xi a), (21, xi b), (22, xi d), (25, xi e), (26, xi f)] [(1, (47, [yi g, yi h, .sn 3 tI i none])), (11, (1000000073, [.mset tI j]))] []
def f40l8 : Clean := ⟨[1, 3, 5, 21, 22, 25, 26], [1, 11], [], [], []⟩
def f40s9 (a : Int) (b : Bool) (d e f g h i : Int) (j l : LI) : St := stOf [(1, xb 1), (3, .c (.mp 11)), (5, xi a), (6, xB b), (21, xi d), (22, xi e), (25, xi f), (26, xi g)] [(1, (47, [yi h, yi i, .sn 3 tI j none])), (11, (1000000073, [.mset tI l]))] []
def f40l9 : Clean := ⟨[1, 3, 5, 6, 21, 22, 25, 26], [1, 11], [], [], []⟩
def f40s10 (a : Int) (b : Bool) (d e f g h i j l : Int) (m o : LI) : St := stOf [(1, xb 1), (3, .c (.mp 11)), (5, xi a), (6, xB b), (21, xi d), (22, xi e), (25, xi f), (26, xi g), (30, xi h), (31, xi i)] [(1, (47, [yi j, yi l, .sn 3 tI m none])), (11, (1000000073, [.mset tI o]))] []
def f40l10 : Clean := ⟨[1, 3, 5, 6, 21, 22, 25, 26, 30, 31], [1, 11], [], [], []⟩
def f40s11 (a : LI) : St := stOf [(3, .c (.mp 11))] [(11, (1000000073, [.mset tI a]))] []
def f40l11 : Clean := ⟨[3], [11], [], [], []⟩
def f40s12 (a : Bool) : St := stOf [(2, xB a)] [] []
def f40l12 : Clean := ⟨[2], [], [], [], []⟩
def f40B : Nat → Option Clean := lookL [(0, f40l2), (6, f40l9), (5, f40l6), (4, f40l4), (3, f40l4), (2, f40l11), (1000000, f40l12)]
abbrev f40i {ρ : Type} (N : Nat) (c : Code) (p : Plan) (σ : St) (K : KT ρ) : Option ρ := iCode f40G tab f40B N c p σ K
def f40c (n : Nat) : Code := codeN 99 (bodyOf Try.f40) n
theorem f40t1 N a (K : KT ρ) : f40i N (f40c 2) .n (f40s0 a) (joinK (some f40l1) K) =
 impl_IsAcyclic.Z1 N a (fun b c d => K .nrm (f40s1 b c d)) := by kernel_rfl
theorem f40t3 N a b c (K : KT ρ) : f40i N (f40c 5) .n (f40s1 a b c) (joinK (some f40l1) K) =
 impl_IsAcyclic.Z3 N a b c (fun a b c => K .nrm (f40s1 a b c)) (fun d => K .ret (f40s12 d)) := by kernel_rfl
theorem f40t5 N a b c (K : KT ρ) : f40i N (f40c 11) .n (f40s1 a b c) (joinK (some f40l2) K) =
 impl_IsAcyclic.Z5 N a b c (fun a b c d => K .nrm (f40s2 a b c d)) := by kernel_rfl
theorem f40t8 N a b c d (K : KT ρ) : f40i N (f40c 39) .n (f40s2 a b c d) (joinK (some f40l3) K) =
 impl_IsAcyclic.Z8 N a b c d (fun e a b c d => K .nrm (f40s3 e a b c d)) := by kernel_rfl
theorem f40t11 N e a b c d (K : KT ρ) : f40i N (f40c 151) .n (f40s3 e a b c d) (joinK (some f40l3) K) =
 impl_IsAcyclic.Z11 N e a b c d (fun e a b c d => K .nrm (f40s3 e a b c d)) (fun a b c d => K (.exit 0) (f40s2 a b c d)) := by kernel_rfl
def f40p10 : Plan := .mk none (some f40l3) .n .n
abbrev f40w10 {ρ : Type} (N M : Nat) (σ : St) (K : KT ρ) : Option ρ := loopC (fun σ K => f40i N (f40c 151) .n σ K) f40l3 M σ K
theorem f40t10L {ρ : Type} (N : Nat) (K : KT ρ) : ∀ (M : Nat) (e a b : Int) (c d : LI), f40w10 N M (f40s3 e a b c d) K =
 impl_IsAcyclic.Z10L N (fun a b c d => K (.exit 0) (f40s2 a b c d)) M e a b c d
 | 0, _, _, _, _, _ => rfl
 | M + 1, e, a, b, c, d => viaRoundS (fun k => impl_IsAcyclic.Z11 N e a b c d k (fun a b c d => K (.exit 0) (f40s2 a b c d))) (f40t11 N (K := seqK (fun σ => f40w10 N M σ K) K) ..) (fx5 fun e a b c d => f40t10L N K M e a b c d) (by kernel_rfl)
theorem f40t10 N e a b c d (K : KT ρ) : f40i N (f40c 87) f40p10 (f40s3 e a b c d) (joinK (some f40l2) K) =
  impl_IsAcyclic.Z10 N e a b c d (fun a b c d => K (.exit 0) (f40s2 a b c d)) :=
 viaLoopS (by kernel_rfl) (f40t10L N (joinK (some f40l2) K) N e a b c d) (by kernel_rfl)
def f40p9 : Plan := .mk (some f40l2) none f40p10 .n
theorem f40t9 N e a b c d (K : KT ρ) : f40i N (f40c 55) f40p9 (f40s3 e a b c d) (joinK (some f40l2) K) =
  impl_IsAcyclic.Z9 N e a b c d (fun a b c d => K .nrm (f40s2 a b c d)) :=
 viaBlockS (by kernel_rfl) (f40t10 N (K := blockK 0 (joinK (some f40l2) K)) ..) (by kernel_rfl)
def f40p7 : Plan := .mk (some f40l3) none .n f40p9
theorem f40t7 N a b c d (K : KT ρ) : f40i N (f40c 23) f40p7 (f40s2 a b c d) (joinK (some f40l2) K) =
  impl_IsAcyclic.Z7 N a b c d (fun a b c d => K .nrm (f40s2 a b c d)) :=
 viaSeqS (fun k => impl_IsAcyclic.Z8 N a b c d k) (by kernel_rfl) (f40t8 N (K := seqK (fun σ => f40i N (f40c 55) f40p9 σ (joinK (some f40l2) K)) (joinK (some f40l2) K)) ..) (fx5 fun e a b c d => f40t9 N e a b c d K) (by kernel_rfl)
theorem f40t14 N a b c d (K : KT ρ) : f40i N (f40c 79) .n (f40s2 a b c d) (joinK (some f40l4) K) =
 impl_IsAcyclic.Z14 N a b c d (fun e f a b c d => K .nrm (f40s4 e f a b c d)) := by kernel_rfl
theorem f40t18 N a b c d e f (K : KT ρ) : f40i N (f40c 559) .n (f40s4 a b c d e f) (joinK (some f40l5) K) =
 impl_IsAcyclic.Z18 N a b c d e f (fun a b g c d e f => K .nrm (f40s5 a b g c d e f)) := by kernel_rfl
theorem f40t20 N b c g d e f a (K : KT ρ) : f40i N (f40c 1327) .n (f40s5 b c g d e f a) (joinK (some f40l4) K) =
 impl_IsAcyclic.Z20 N b c g d e f a (fun b c d e f a => K .nrm (f40s4 b c d e f a)) (fun a => K (.exit 2) (f40s11 a)) := by kernel_rfl
theorem f40t24 N a b c d e f (K : KT ρ) : f40i N (f40c 9007) .n (f40s4 a b c d e f) (joinK (some f40l6) K) =
 impl_IsAcyclic.Z24 N a b c d e f (fun a b g h c d e f => K .nrm (f40s6 a b g h c d e f)) := by kernel_rfl
theorem f40t28 N a b c d e f g h (K : KT ρ) : f40i N (f40c 70447) .n (f40s6 a b c d e f g h) (joinK (some f40l7) K) =
 impl_IsAcyclic.Z28 N a b c d e f g h (fun a b c d i e f g h => K .nrm (f40s7 a b c d i e f g h)) := by kernel_rfl
theorem f40t30 N a b g h i c d e f (K : KT ρ) : f40i N (f40c 168751) .n (f40s7 a b g h i c d e f) (joinK (some f40l6) K) =
 impl_IsAcyclic.Z30 N a b g h i c d e f (fun a b g h c d e f => K .nrm (f40s6 a b g h c d e f)) (fun a b c d e f => K (.exit 4) (f40s4 a b c d e f)) := by kernel_rfl
theorem f40t34 N a b c d e f g h (K : KT ρ) : f40i N (f40c 1151791) .n (f40s6 a b c d e f g h) (joinK (some f40l8) K) =
 impl_IsAcyclic.Z34 N a b c d e f g h (fun i a b c d e f g h => K .nrm (f40s8 i a b c d e f g h)) := by kernel_rfl
theorem f40t36 N a b c d e f g h i (K : KT ρ) : f40i N (f40c 2724655) .n (f40s8 a b c d e f g h i) (joinK (some f40l9) K) =
 impl_IsAcyclic.Z36 N a b c d e f g h i (fun a j b c d e f g h i => K .nrm (f40s9 a j b c d e f g h i)) := by kernel_rfl
theorem f40t39 N a b c d e f g h i j (K : KT ρ) : f40i N (f40c 10064687) .n (f40s9 a b c d e f g h i j) (joinK (some f40l10) K) =
 impl_IsAcyclic.Z39 N a b c d e f g h i j (fun a b c d e f l m g h i j => K .nrm (f40s10 a b c d e f l m g h i j)) := by kernel_rfl
theorem f40t42 N a b c d e f l m g h i j (K : KT ρ) : f40i N (f40c 39424815) .n (f40s10 a b c d e f l m g h i j) (joinK (some f40l10) K) =
 impl_IsAcyclic.Z42 N a b c d e f l m g h i j (fun a b c d e f l m g h i j => K .nrm (f40s10 a b c d e f l m g h i j)) (fun a b c d e f g h i j => K (.exit 6) (f40s9 a b c d e f g h i j)) := by kernel_rfl
def f40p41 : Plan := .mk none (some f40l10) .n .n
abbrev f40w41 {ρ : Type} (N M : Nat) (σ : St) (K : KT ρ) : Option ρ := loopC (fun σ K => f40i N (f40c 39424815) .n σ K) f40l10 M σ K
theorem f40t41L {ρ : Type} (N : Nat) (K : KT ρ) : ∀ (M : Nat) (a : Int) (b : Bool) (c d e f l m g h : Int) (i j : LI), f40w41 N M (f40s10 a b c d e f l m g h i j) K =
 impl_IsAcyclic.Z41L N (fun a b c d e f g h i j => K (.exit 6) (f40s9 a b c d e f g h i j)) M a b c d e f l m g h i j
 | 0, _, _, _, _, _, _, _, _, _, _, _, _ => rfl
 | M + 1, a, b, c, d, e, f, l, m, g, h, i, j => viaRoundS (fun k => impl_IsAcyclic.Z42 N a b c d e f l m g h i j k (fun a b c d e f g h i j => K (.exit 6) (f40s9 a b c d e f g h i j))) (f40t42 N (K := seqK (fun σ => f40w41 N M σ K) K) ..) (fx12 fun a b c d e f l m g h i j => f40t41L N K M a b c d e f l m g h i j) (by kernel_rfl)
theorem f40t41 N a b c d e f l m g h i j (K : KT ρ) : f40i N (f40c 22647599) f40p41 (f40s10 a b c d e f l m g h i j) (joinK (some f40l9) K) =
  impl_IsAcyclic.Z41 N a b c d e f l m g h i j (fun a b c d e f g h i j => K (.exit 6) (f40s9 a b c d e f g h i j)) :=
 viaLoopS (by kernel_rfl) (f40t41L N (joinK (some f40l9) K) N a b c d e f l m g h i j) (by kernel_rfl)
def f40p40 : Plan := .mk (some f40l9) none f40p41 .n
theorem f40t40 N a b c d e f l m g h i j (K : KT ρ) : f40i N (f40c 14258991) f40p40 (f40s10 a b c d e f l m g h i j) (joinK (some f40l9) K) =
  impl_IsAcyclic.Z40 N a b c d e f l m g h i j (fun a b c d e f g h i j => K .nrm (f40s9 a b c d e f g h i j)) :=
 viaBlockS (by kernel_rfl) (f40t41 N (K := blockK 6 (joinK (some f40l9) K)) ..) (by kernel_rfl)
def f40p38 : Plan := .mk (some f40l10) none .n f40p40
theorem f40t38 N a b c d e f g h i j (K : KT ρ) : f40i N (f40c 5870383) f40p38 (f40s9 a b c d e f g h i j) (joinK (some f40l9) K) =
  impl_IsAcyclic.Z38 N a b c d e f g h i j (fun a b c d e f g h i j => K .nrm (f40s9 a b c d e f g h i j)) :=
 viaSeqS (fun k => impl_IsAcyclic.Z39 N a b c d e f g h i j k) (by kernel_rfl) (f40t39 N (K := seqK (fun σ => f40i N (f40c 14258991) f40p40 σ (joinK (some f40l9) K)) (joinK (some f40l9) K)) ..) (fx12 fun a b c d e f l m g h i j => f40t40 N a b c d e f l m g h i j K) (by kernel_rfl)
theorem f40t43 N i j a b c d e f g h (K : KT ρ) : f40i N (f40c 7967535) .n (f40s9 i j a b c d e f g h) (joinK (some f40l6) K) =
 impl_IsAcyclic.Z43 N i j a b c d e f g h (fun a b c d e f g h => K .nrm (f40s6 a b c d e f g h)) := by kernel_rfl
def f40p37 : Plan := .mk (some f40l9) none f40p38 .n
theorem f40t37 N i j a b c d e f g h (K : KT ρ) : f40i N (f40c 3773231) f40p37 (f40s9 i j a b c d e f g h) (joinK (some f40l6) K) =
  impl_IsAcyclic.Z37 N i j a b c d e f g h (fun a b c d e f g h => K .nrm (f40s6 a b c d e f g h)) :=
 viaSeqS (fun k => impl_IsAcyclic.Z38 N i j a b c d e f g h k) (by kernel_rfl) (f40t38 N (K := seqK (fun σ => f40i N (f40c 7967535) .n σ (joinK (some f40l6) K)) (joinK (some f40l6) K)) ..) (fx10 fun i j a b c d e f g h => f40t43 N i j a b c d e f g h K) (by kernel_rfl)
def f40p35 : Plan := .mk (some f40l9) none .n f40p37
theorem f40t35 N i a b c d e f g h (K : KT ρ) : f40i N (f40c 1676079) f40p35 (f40s8 i a b c d e f g h) (joinK (some f40l6) K) =
  impl_IsAcyclic.Z35 N i a b c d e f g h (fun a b c d e f g h => K .nrm (f40s6 a b c d e f g h)) :=
 viaSeqS (fun k => impl_IsAcyclic.Z36 N i a b c d e f g h k) (by kernel_rfl) (f40t36 N (K := seqK (fun σ => f40i N (f40c 3773231) f40p37 σ (joinK (some f40l6) K)) (joinK (some f40l6) K)) ..) (fx10 fun i j a b c d e f g h => f40t37 N i j a b c d e f g h K) (by kernel_rfl)
def f40p33 : Plan := .mk (some f40l8) none .n f40p35
theorem f40t33 N a b c d e f g h (K : KT ρ) : f40i N (f40c 627503) f40p33 (f40s6 a b c d e f g h) (joinK (some f40l6) K) =
  impl_IsAcyclic.Z33 N a b c d e f g h (fun a b c d e f g h => K .nrm (f40s6 a b c d e f g h)) :=
 viaSeqS (fun k => impl_IsAcyclic.Z34 N a b c d e f g h k) (by kernel_rfl) (f40t34 N (K := seqK (fun σ => f40i N (f40c 1676079) f40p35 σ (joinK (some f40l6) K)) (joinK (some f40l6) K)) ..) (fx9 fun i a b c d e f g h => f40t35 N i a b c d e f g h K) (by kernel_rfl)
def f40p32 : Plan := .mk (some f40l6) none f40p33 .n
theorem f40t32 N a b c d e f g h (K : KT ρ) : f40i N (f40c 365359) f40p32 (f40s6 a b c d e f g h) (joinK (some f40l6) K) =
  impl_IsAcyclic.Z32 N a b c d e f g h (fun a b c d e f g h => K .nrm (f40s6 a b c d e f g h)) :=
 viaBlockS (by kernel_rfl) (f40t33 N (K := blockK 5 (joinK (some f40l6) K)) ..) (by kernel_rfl)
theorem f40t44 N a b c d e f g h (K : KT ρ) : f40i N (f40c 496431) .n (f40s6 a b c d e f g h) (joinK (some f40l6) K) =
 impl_IsAcyclic.Z44 N a b c d e f g h (fun a b c d e f g h => K .nrm (f40s6 a b c d e f g h)) := by kernel_rfl
def f40p31 : Plan := .mk (some f40l6) none f40p32 .n
theorem f40t31 N a b c d e f g h (K : KT ρ) : f40i N (f40c 234287) f40p31 (f40s6 a b c d e f g h) (joinK (some f40l6) K) =
  impl_IsAcyclic.Z31 N a b c d e f g h (fun a b c d e f g h => K .nrm (f40s6 a b c d e f g h)) :=
 viaSeqS (fun k => impl_IsAcyclic.Z32 N a b c d e f g h k) (by kernel_rfl) (f40t32 N (K := seqK (fun σ => f40i N (f40c 496431) .n σ (joinK (some f40l6) K)) (joinK (some f40l6) K)) ..) (fx8 fun a b c d e f g h => f40t44 N a b c d e f g h K) (by kernel_rfl)
def f40p29 : Plan := .mk (some f40l6) none .n f40p31
theorem f40t29 N a b g h i c d e f (K : KT ρ) : f40i N (f40c 103215) f40p29 (f40s7 a b g h i c d e f) (joinK (some f40l6) K) =
  impl_IsAcyclic.Z29 N a b g h i c d e f (fun a b g h c d e f => K .nrm (f40s6 a b g h c d e f)) (fun a b c d e f => K (.exit 4) (f40s4 a b c d e f)) :=
 viaSeqS (fun k => impl_IsAcyclic.Z30 N a b g h i c d e f k (fun a b c d e f => K (.exit 4) (f40s4 a b c d e f))) (by kernel_rfl) (f40t30 N (K := seqK (fun σ => f40i N (f40c 234287) f40p31 σ (joinK (some f40l6) K)) (joinK (some f40l6) K)) ..) (fx8 fun a b g h c d e f => f40t31 N a b g h c d e f K) (by kernel_rfl)
def f40p27 : Plan := .mk (some f40l7) none .n f40p29
theorem f40t27 N a b g h c d e f (K : KT ρ) : f40i N (f40c 37679) f40p27 (f40s6 a b g h c d e f) (joinK (some f40l6) K) =
  impl_IsAcyclic.Z27 N a b g h c d e f (fun a b g h c d e f => K .nrm (f40s6 a b g h c d e f)) (fun a b c d e f => K (.exit 4) (f40s4 a b c d e f)) :=
 viaSeqS (fun k => impl_IsAcyclic.Z28 N a b g h c d e f k) (by kernel_rfl) (f40t28 N (K := seqK (fun σ => f40i N (f40c 103215) f40p29 σ (joinK (some f40l6) K)) (joinK (some f40l6) K)) ..) (fx9 fun a b g h i c d e f => f40t29 N a b g h i c d e f K) (by kernel_rfl)
def f40p26 : Plan := .mk none (some f40l6) f40p27 .n
abbrev f40w26 {ρ : Type} (N M : Nat) (σ : St) (K : KT ρ) : Option ρ := loopC (fun σ K => f40i N (f40c 37679) f40p27 σ K) f40l6 M σ K
theorem f40t26L {ρ : Type} (N : Nat) (K : KT ρ) : ∀ (M : Nat) (a b g h c d : Int) (e f : LI), f40w26 N M (f40s6 a b g h c d e f) K =
 impl_IsAcyclic.Z26L N (fun a b c d e f => K (.exit 4) (f40s4 a b c d e f)) M a b g h c d e f
 | 0, _, _, _, _, _, _, _, _ => rfl
 | M + 1, a, b, g, h, c, d, e, f => viaRoundS (fun k => impl_IsAcyclic.Z27 N a b g h c d e f k (fun a b c d e f => K (.exit 4) (f40s4 a b c d e f))) (f40t27 N (K := seqK (fun σ => f40w26 N M σ K) K) ..) (fx8 fun a b g h c d e f => f40t26L N K M a b g h c d e f) (by kernel_rfl)
theorem f40t26 N a b g h c d e f (K : KT ρ) : f40i N (f40c 21295) f40p26 (f40s6 a b g h c d e f) (joinK (some f40l4) K) =
  impl_IsAcyclic.Z26 N a b g h c d e f (fun a b c d e f => K (.exit 4) (f40s4 a b c d e f)) :=
 viaLoopS (by kernel_rfl) (f40t26L N (joinK (some f40l4) K) N a b g h c d e f) (by kernel_rfl)
def f40p25 : Plan := .mk (some f40l4) none f40p26 .n
theorem f40t25 N a b g h c d e f (K : KT ρ) : f40i N (f40c 13103) f40p25 (f40s6 a b g h c d e f) (joinK (some f40l4) K) =
  impl_IsAcyclic.Z25 N a b g h c d e f (fun a b c d e f => K .nrm (f40s4 a b c d e f)) :=
 viaBlockS (by kernel_rfl) (f40t26 N (K := blockK 4 (joinK (some f40l4) K)) ..) (by kernel_rfl)
def f40p23 : Plan := .mk (some f40l6) none .n f40p25
theorem f40t23 N a b c d e f (K : KT ρ) : f40i N (f40c 4911) f40p23 (f40s4 a b c d e f) (joinK (some f40l4) K) =
  impl_IsAcyclic.Z23 N a b c d e f (fun a b c d e f => K .nrm (f40s4 a b c d e f)) :=
 viaSeqS (fun k => impl_IsAcyclic.Z24 N a b c d e f k) (by kernel_rfl) (f40t24 N (K := seqK (fun σ => f40i N (f40c 13103) f40p25 σ (joinK (some f40l4) K)) (joinK (some f40l4) K)) ..) (fx8 fun a b g h c d e f => f40t25 N a b g h c d e f K) (by kernel_rfl)
def f40p22 : Plan := .mk (some f40l4) none f40p23 .n
theorem f40t22 N a b c d e f (K : KT ρ) : f40i N (f40c 2863) f40p22 (f40s4 a b c d e f) (joinK (some f40l4) K) =
  impl_IsAcyclic.Z22 N a b c d e f (fun a b c d e f => K .nrm (f40s4 a b c d e f)) :=
 viaBlockS (by kernel_rfl) (f40t23 N (K := blockK 3 (joinK (some f40l4) K)) ..) (by kernel_rfl)
theorem f40t45 N a b c d e f (K : KT ρ) : f40i N (f40c 3887) .n (f40s4 a b c d e f) (joinK (some f40l4) K) =
 impl_IsAcyclic.Z45 N a b c d e f (fun a b c d e f => K .nrm (f40s4 a b c d e f)) := by kernel_rfl
def f40p21 : Plan := .mk (some f40l4) none f40p22 .n
theorem f40t21 N a b c d e f (K : KT ρ) : f40i N (f40c 1839) f40p21 (f40s4 a b c d e f) (joinK (some f40l4) K) =
  impl_IsAcyclic.Z21 N a b c d e f (fun a b c d e f => K .nrm (f40s4 a b c d e f)) :=
 viaSeqS (fun k => impl_IsAcyclic.Z22 N a b c d e f k) (by kernel_rfl) (f40t22 N (K := seqK (fun σ => f40i N (f40c 3887) .n σ (joinK (some f40l4) K)) (joinK (some f40l4) K)) ..) (fx6 fun a b c d e f => f40t45 N a b c d e f K) (by kernel_rfl)
def f40p19 : Plan := .mk (some f40l4) none .n f40p21
theorem f40t19 N b c g d e f a (K : KT ρ) : f40i N (f40c 815) f40p19 (f40s5 b c g d e f a) (joinK (some f40l4) K) =
  impl_IsAcyclic.Z19 N b c g d e f a (fun b c d e f a => K .nrm (f40s4 b c d e f a)) (fun a => K (.exit 2) (f40s11 a)) :=
 viaSeqS (fun k => impl_IsAcyclic.Z20 N b c g d e f a k (fun a => K (.exit 2) (f40s11 a))) (by kernel_rfl) (f40t20 N (K := seqK (fun σ => f40i N (f40c 1839) f40p21 σ (joinK (some f40l4) K)) (joinK (some f40l4) K)) ..) (fx6 fun b c d e f a => f40t21 N b c d e f a K) (by kernel_rfl)
def f40p17 : Plan := .mk (some f40l5) none .n f40p19
theorem f40t17 N b c d e f a (K : KT ρ) : f40i N (f40c 303) f40p17 (f40s4 b c d e f a) (joinK (some f40l4) K) =
  impl_IsAcyclic.Z17 N b c d e f a (fun b c d e f a => K .nrm (f40s4 b c d e f a)) (fun a => K (.exit 2) (f40s11 a)) :=
 viaSeqS (fun k => impl_IsAcyclic.Z18 N b c d e f a k) (by kernel_rfl) (f40t18 N (K := seqK (fun σ => f40i N (f40c 815) f40p19 σ (joinK (some f40l4) K)) (joinK (some f40l4) K)) ..) (fx7 fun b c g d e f a => f40t19 N b c g d e f a K) (by kernel_rfl)
def f40p16 : Plan := .mk none (some f40l4) f40p17 .n
abbrev f40w16 {ρ : Type} (N M : Nat) (σ : St) (K : KT ρ) : Option ρ := loopC (fun σ K => f40i N (f40c 303) f40p17 σ K) f40l4 M σ K
theorem f40t16L {ρ : Type} (N : Nat) (K : KT ρ) : ∀ (M : Nat) (b c d e : Int) (f a : LI), f40w16 N M (f40s4 b c d e f a) K =
 impl_IsAcyclic.Z16L N (fun a => K (.exit 2) (f40s11 a)) M b c d e f a
 | 0, _, _, _, _, _, _ => rfl
 | M + 1, b, c, d, e, f, a => viaRoundS (fun k => impl_IsAcyclic.Z17 N b c d e f a k (fun a => K (.exit 2) (f40s11 a))) (f40t17 N (K := seqK (fun σ => f40w16 N M σ K) K) ..) (fx6 fun b c d e f a => f40t16L N K M b c d e f a) (by kernel_rfl)
theorem f40t16 N b c d e f a (K : KT ρ) : f40i N (f40c 175) f40p16 (f40s4 b c d e f a) (joinK (some f40l11) K) =
  impl_IsAcyclic.Z16 N b c d e f a (fun a => K (.exit 2) (f40s11 a)) :=
 viaLoopS (by kernel_rfl) (f40t16L N (joinK (some f40l11) K) N b c d e f a) (by kernel_rfl)
def f40p15 : Plan := .mk (some f40l11) none f40p16 .n
theorem f40t15 N b c d e f a (K : KT ρ) : f40i N (f40c 111) f40p15 (f40s4 b c d e f a) (joinK (some f40l11) K) =
  impl_IsAcyclic.Z15 N b c d e f a (fun a => K .nrm (f40s11 a)) :=
 viaBlockS (by kernel_rfl) (f40t16 N (K := blockK 2 (joinK (some f40l11) K)) ..) (by kernel_rfl)
def f40p13 : Plan := .mk (some f40l4) none .n f40p15
theorem f40t13 N b c d a (K : KT ρ) : f40i N (f40c 47) f40p13 (f40s2 b c d a) (joinK (some f40l11) K) =
  impl_IsAcyclic.Z13 N b c d a (fun a => K .nrm (f40s11 a)) :=
 viaSeqS (fun k => impl_IsAcyclic.Z14 N b c d a k) (by kernel_rfl) (f40t14 N (K := seqK (fun σ => f40i N (f40c 111) f40p15 σ (joinK (some f40l11) K)) (joinK (some f40l11) K)) ..) (fx6 fun e f b c d a => f40t15 N e f b c d a K) (by kernel_rfl)
theorem f40t46 N a (K : KT ρ) : f40i N (f40c 63) .n (f40s11 a) (joinK (some f40lE) K) =
 impl_IsAcyclic.Z46 N a (fun b => K .ret (f40s12 b)) := by kernel_rfl
def f40p12 : Plan := .mk (some f40l11) none f40p13 .n
theorem f40t12 N b c d a (K : KT ρ) : f40i N (f40c 31) f40p12 (f40s2 b c d a) (joinK (some f40lE) K) =
  impl_IsAcyclic.Z12 N b c d a (fun e => K .ret (f40s12 e)) :=
 viaSeqS (fun k => impl_IsAcyclic.Z13 N b c d a k) (by kernel_rfl) (f40t13 N (K := seqK (fun σ => f40i N (f40c 63) .n σ (joinK (some f40lE) K)) (joinK (some f40lE) K)) ..) (funext fun a => f40t46 N a K) (by kernel_rfl)
def f40p6 : Plan := .mk (some f40l2) none f40p7 f40p12
theorem f40t6 N a b c d (K : KT ρ) : f40i N (f40c 15) f40p6 (f40s2 a b c d) (joinK (some f40lE) K) =
  impl_IsAcyclic.Z6 N a b c d (fun e => K .ret (f40s12 e)) :=
 viaSeqS (fun k => impl_IsAcyclic.Z7 N a b c d k) (by kernel_rfl) (f40t7 N (K := seqK (fun σ => f40i N (f40c 31) f40p12 σ (joinK (some f40lE) K)) (joinK (some f40lE) K)) ..) (fx4 fun a b c d => f40t12 N a b c d K) (by kernel_rfl)
def f40p4 : Plan := .mk (some f40l2) none .n f40p6
theorem f40t4 N a b c (K : KT ρ) : f40i N (f40c 7) f40p4 (f40s1 a b c) (joinK (some f40lE) K) =
  impl_IsAcyclic.Z4 N a b c (fun d => K .ret (f40s12 d)) :=
 viaSeqS (fun k => impl_IsAcyclic.Z5 N a b c k) (by kernel_rfl) (f40t5 N (K := seqK (fun σ => f40i N (f40c 15) f40p6 σ (joinK (some f40lE) K)) (joinK (some f40lE) K)) ..) (fx4 fun a b c e => f40t6 N a b c e K) (by kernel_rfl)
def f40p2 : Plan := .mk (some f40l1) none .n f40p4
theorem f40t2 N a b c (K : KT ρ) : f40i N (f40c 3) f40p2 (f40s1 a b c) (joinK (some f40lE) K) =
  impl_IsAcyclic.Z2 N a b c (fun d => K .ret (f40s12 d)) :=
 viaSeqS (fun k => impl_IsAcyclic.Z3 N a b c k (fun d => K .ret (f40s12 d))) (by kernel_rfl) (f40t3 N (K := seqK (fun σ => f40i N (f40c 7) f40p4 σ (joinK (some f40lE) K)) (joinK (some f40lE) K)) ..) (fx3 fun a b c => f40t4 N a b c K) (by kernel_rfl)
def f40p0 : Plan := .mk (some f40l1) none .n f40p2
theorem f40t0 N a (K : KT ρ) : f40i N (f40c 1) f40p0 (f40s0 a) (joinK (some f40lE) K) =
  impl_IsAcyclic.Z0 N a (fun b => K .ret (f40s12 b)) :=
 viaSeqS (fun k => impl_IsAcyclic.Z1 N a k) (by kernel_rfl) (f40t1 N (K := seqK (fun σ => f40i N (f40c 3) f40p2 σ (joinK (some f40lE) K)) (joinK (some f40lE) K)) ..) (fx3 fun c d e => f40t2 N c d e K) (by kernel_rfl)
theorem f40m (N : Nat) (a : MT) : f40i N (f40c 1) f40p0 (f40s0 a) (joinK (some f40lE) (finK tab f40sig Try.f40.results.toList)) = impl_IsAcyclic.Z0 N a (fun b => some ((), (b, ()))) :=
 (f40t0 N a (finK tab f40sig Try.f40.results.toList)).trans (by kernel_rfl)
theorem f40ok (h : impl_IsAcyclic.Spec) : EntryOk Try.prog 40 e40 :=
 entry_of_code (sig := f40sig) (c := (f40c 1)) (pl := f40p0) (je := (some f40lE)) (B := f40B) Try.func40 (by kernel_rfl) (by kernel_rfl) (by kernel_rfl) tabOk f40GOk (by kernel_rfl) (by kernel_rfl) (by kernel_rfl) (by kernel_rfl) fun X hb hp => by
  obtain ⟨a, _⟩ := X
  obtain ⟨N, h⟩ := h a hb.1
  exact ⟨N, (f40m N a).trans (h N (Nat.le_refl N))⟩
theorem e40ok : EntryOk Try.prog 40 e40 := f40ok impl_IsAcyclic.ok
end Go.Fw
namespace Go.Fw
variable {ρ : Type}
open Go.Proofs
def f22sig : Sig := ⟨[⟨.sl 3 (.int .i64), false, false⟩, ⟨.sl 3 (.int .i64), false, false⟩], [⟨.bool, false, false⟩]⟩
def e22 : Entry := ⟨f22sig, none, fun X => ((), ((laws_eqIntS.g X.1 X.2.1), ()))⟩
def f22G : Gm := emptyG
theorem f22GOk : GOk Try.prog f22G := GOk.nil
def f22lE : Clean := ⟨[], [], [], [], []⟩
def f22s0 (a b : LI) : St := initSt f22sig.ps (a, (b, ()))
def f22s1 (a b : LI) : St := stOf [(0, .c (.sn 3 tI a none)), (1, .c (.sn 3 tI b none))] [] []
def f22l1 : Clean := ⟨[0, 1], [], [], [], []⟩
def f22s2 (a b : LI) (d : Int) : St := stOf [(0, .c (.sn 3 tI a none)), (1, .c (.sn 3 tI b none)), (5, xi d)] [] []
def f22l2 : Clean := ⟨[0, 1, 5], [], [], [], []⟩
def f22s3  : St := stOf [] [] []
def f22l3 : Clean := ⟨[], [], [], [], []⟩
def f22s4 (a : Bool) : St := stOf [(4, xB a)] [] []
def f22l4 : Clean := ⟨[4], [], [], [], []⟩
def f22B : Nat → Option Clean := lookL [(0, f22l3), (1000000, f22l4)]
abbrev f22i {ρ : Type} (N : Nat) (c : Code) (p : Plan) (σ : St) (K : KT ρ) : Option ρ := iCode f22G tab f22B N c p σ K
def f22c (n : Nat) : Code := codeN 99 (bodyOf Try.f22) n
theorem f22t1 N a b (K : KT ρ) : f22i N (f22c 2) .n (f22s0 a b) (joinK (some f22l1) K) =
 laws_eqIntS.Z1 N a b (fun a b => K .nrm (f22s1 a b)) := by kernel_rfl
theorem f22t3 N a b (K : KT ρ) : f22i N (f22c 5) .n (f22s1 a b) (joinK (some f22l1) K) =
 laws_eqIntS.Z3 N a b (fun a b => K .nrm (f22s1 a b)) (fun c => K .ret (f22s4 c)) := by kernel_rfl
theorem f22t6 N a b (K : KT ρ) : f22i N (f22c 19) .n (f22s1 a b) (joinK (some f22l2) K) =
 laws_eqIntS.Z6 N a b (fun a b c => K .nrm (f22s2 a b c)) := by kernel_rfl
theorem f22t9 N a b c (K : KT ρ) : f22i N (f22c 75) .n (f22s2 a b c) (joinK (some f22l2) K) =
 laws_eqIntS.Z9 N a b c (fun a b c => K .nrm (f22s2 a b c)) (K (.exit 0) f22s3) (fun d => K .ret (f22s4 d)) := by kernel_rfl
def f22p8 : Plan := .mk none (some f22l2) .n .n
abbrev f22w8 {ρ : Type} (N M : Nat) (σ : St) (K : KT ρ) : Option ρ := loopC (fun σ K => f22i N (f22c 75) .n σ K) f22l2 M σ K
theorem f22t8L {ρ : Type} (N : Nat) (K : KT ρ) : ∀ (M : Nat) (a b : LI) (c : Int), f22w8 N M (f22s2 a b c) K =
 laws_eqIntS.Z8L N (K (.exit 0) f22s3) (fun d => K .ret (f22s4 d)) M a b c
 | 0, _, _, _ => rfl
 | M + 1, a, b, c => viaRoundS (fun k => laws_eqIntS.Z9 N a b c k (K (.exit 0) f22s3) (fun d => K .ret (f22s4 d))) (f22t9 N (K := seqK (fun σ => f22w8 N M σ K) K) ..) (fx3 fun a b c => f22t8L N K M a b c) (by kernel_rfl)
theorem f22t8 N a b c (K : KT ρ) : f22i N (f22c 43) f22p8 (f22s2 a b c) (joinK (some f22l3) K) =
  laws_eqIntS.Z8 N a b c (K (.exit 0) f22s3) (fun d => K .ret (f22s4 d)) :=
 viaLoopS (by kernel_rfl) (f22t8L N (joinK (some f22l3) K) N a b c) (by kernel_rfl)
def f22p7 : Plan := .mk (some f22l3) none f22p8 .n
theorem f22t7 N a b c (K : KT ρ) : f22i N (f22c 27) f22p7 (f22s2 a b c) (joinK (some f22l3) K) =
  laws_eqIntS.Z7 N a b c (K .nrm f22s3) (fun d => K .ret (f22s4 d)) :=
 viaBlockS (by kernel_rfl) (f22t8 N (K := blockK 0 (joinK (some f22l3) K)) ..) (by kernel_rfl)
def f22p5 : Plan := .mk (some f22l2) none .n f22p7
theorem f22t5 N a b (K : KT ρ) : f22i N (f22c 11) f22p5 (f22s1 a b) (joinK (some f22l3) K) =
  laws_eqIntS.Z5 N a b (K .nrm f22s3) (fun c => K .ret (f22s4 c)) :=
 viaSeqS (fun k => laws_eqIntS.Z6 N a b k) (by kernel_rfl) (f22t6 N (K := seqK (fun σ => f22i N (f22c 27) f22p7 σ (joinK (some f22l3) K)) (joinK (some f22l3) K)) ..) (fx3 fun a b d => f22t7 N a b d K) (by kernel_rfl)
theorem f22t10 N  (K : KT ρ) : f22i N (f22c 15) .n f22s3 (joinK (some f22lE) K) =
 laws_eqIntS.Z10 N (fun a => K .ret (f22s4 a)) := by kernel_rfl
def f22p4 : Plan := .mk (some f22l3) none f22p5 .n
theorem f22t4 N a b (K : KT ρ) : f22i N (f22c 7) f22p4 (f22s1 a b) (joinK (some f22lE) K) =
  laws_eqIntS.Z4 N a b (fun c => K .ret (f22s4 c)) :=
 viaSeqS (fun k => laws_eqIntS.Z5 N a b k (fun c => K .ret (f22s4 c))) (by kernel_rfl) (f22t5 N (K := seqK (fun σ => f22i N (f22c 15) .n σ (joinK (some f22lE) K)) (joinK (some f22lE) K)) ..) (f22t10 N K) (by kernel_rfl)
def f22p2 : Plan := .mk (some f22l1) none .n f22p4
theorem f22t2 N a b (K : KT ρ) : f22i N (f22c 3) f22p2 (f22s1 a b) (joinK (some f22lE) K) =
  laws_eqIntS.Z2 N a b (fun c => K .ret (f22s4 c)) :=
 viaSeqS (fun k => laws_eqIntS.Z3 N a b k (fun c => K .ret (f22s4 c))) (by kernel_rfl) (f22t3 N (K := seqK (fun σ => f22i N (f22c 7) f22p4 σ (joinK (some f22lE) K)) (joinK (some f22lE) K)) ..) (fx2 fun a b => f22t4 N a b K) (by kernel_rfl)
def f22p0 : Plan := .mk (some f22l1) none .n f22p2
theorem f22t0 N a b (K : KT ρ) : f22i N (f22c 1) f22p0 (f22s0 a b) (joinK (some f22lE) K) =
  laws_eqIntS.Z0 N a b (fun c => K .ret (f22s4 c)) :=
 viaSeqS (fun k => laws_eqIntS.Z1 N a b k) (by kernel_rfl) (f22t1 N (K := seqK (fun σ => f22i N (f22c 3) f22p2 σ (joinK (some f22lE) K)) (joinK (some f22lE) K)) ..) (fx2 fun a b => f22t2 N a b K) (by kernel_rfl)
theorem f22m (N : Nat) (a b : LI) : f22i N (f22c 1) f22p0 (f22s0 a b) (joinK (some f22lE) (finK tab f22sig Try.f22.results.toList)) = laws_eqIntS.Z0 N a b (fun c => some ((), (c, ()))) :=
 (f22t0 N a b (finK tab f22sig Try.f22.results.toList)).trans (by kernel_rfl)
theorem f22ok (h : laws_eqIntS.Spec) : EntryOk Try.prog 22 e22 :=
 entry_of_code (sig := f22sig) (c := (f22c 1)) (pl := f22p0) (je := (some f22lE)) (B := f22B) Try.func22 (by kernel_rfl) (by kernel_rfl) (by kernel_rfl) tabOk f22GOk (by kernel_rfl) (by kernel_rfl) (by kernel_rfl) (by kernel_rfl) fun X hb hp => by
  obtain ⟨a, b, _⟩ := X
  obtain ⟨N, h⟩ := h a b hb.1 hb.2.1
  exact ⟨N, (f22m N a b).trans (h N (Nat.le_refl N))⟩
theorem e22ok : EntryOk Try.prog 22 e22 := f22ok laws_eqIntS.ok
end Go.Fw
namespace Go.Fw
variable {ρ : Type}
open Go.Proofs
def f34sig : Sig := ⟨[⟨.pair (.int .i64) (.pair (.int .i64) (.sl 3 (.int .i64))), true, false⟩, ⟨.pair (.int .i64) (.pair (.int .i64) (.sl 3 (.int .i64))), true, false⟩], [⟨.bool, false, false⟩]⟩
def e34 : Entry := ⟨f34sig, none, fun X => ((), ((laws_eqMatrix.g X.1 X.2.1), ()))⟩
def f34G : Gm := addG emptyG 22 e22
theorem f34GOk : GOk Try.prog f34G := (GOk.nil).add e22ok (by kernel_rfl)
def f34lE : Clean := ⟨[], [], [], [], []⟩
def f34s0 (a b : MT) : St := initSt f34sig.ps (a, (b, ()))
def f34s1 (a : Bool) : St := stOf [(4, xB a)] [] []
def f34l1 : Clean := ⟨[4], [], [], [], []⟩
def f34B : Nat → Option Clean := lookL [(1000000, f34l1)]
abbrev f34i {ρ : Type} (N : Nat) (c : Code) (p : Plan) (σ : St) (K : KT ρ) : Option ρ := iCode f34G tab f34B N c p σ K
def f34c (n : Nat) : Code := codeN 99 (bodyOf Try.f34) n
theorem f34t0 N a b (K : KT ρ) : f34i N (f34c 1) .n (f34s0 a b) (joinK (some f34lE) K) =
 laws_eqMatrix.Z0 N a b (fun c => K .ret (f34s1 c)) := by kernel_rfl
theorem f34m (N : Nat) (a b : MT) : f34i N (f34c 1) .n (f34s0 a b) (joinK (some f34lE) (finK tab f34sig Try.f34.results.toList)) = laws_eqMatrix.Z0 N a b (fun c => some ((), (c, ()))) :=
 (f34t0 N a b (finK tab f34sig Try.f34.results.toList)).trans (by kernel_rfl)
theorem f34ok (h : laws_eqMatrix.Spec) : EntryOk Try.prog 34 e34 :=
 entry_of_code (sig := f34sig) (c := (f34c 1)) (pl := .n) (je := (some f34lE)) (B := f34B) Try.func34 (by kernel_rfl) (by kernel_rfl) (by kernel_rfl) tabOk f34GOk (by kernel_rfl) (by kernel_rfl) (by kernel_rfl) (by kernel_rfl) fun X hb hp => by
  obtain ⟨a, b, _⟩ := X
  obtain ⟨N, h⟩ := h a b hb.1 hb.2.1
  exact ⟨N, (f34m N a b).trans (h N (Nat.le_refl N))⟩
theorem e34ok : EntryOk Try.prog 34 e34 := f34ok laws_eqMatrix.ok
end Go.Fw
namespace Go.Fw
variable {ρ : Type}
open Go.Proofs
def f10sig : Sig := ⟨[⟨.pair (.int .i64) (.pair (.int .i64) (.sl 3 (.int .i64))), true, false⟩], [⟨.bool, false, false⟩]⟩
def e10 : Entry := ⟨f10sig, none, fun X => ((), ((laws_FnExactIsAcyclic.g X.1), ()))⟩
def f10G : Gm := addG (addG (addG (addG (addG emptyG 30 e30) 32 e32) 34 e34) 39 e39) 40 e40
theorem f10GOk : GOk Try.prog f10G := (((((GOk.nil).add e30ok (by kernel_rfl)).add e32ok (by kernel_rfl)).add e34ok (by kernel_rfl)).add e39ok (by kernel_rfl)).add e40ok (by kernel_rfl)
def f10lE : Clean := ⟨[], [], [], [], []⟩
def f10s0 (a : MT) : St := initSt f10sig.ps (a, ())
def f10s1 (a : Bool) : St := stOf [(2, xB a)] [] []
def f10l1 : Clean := ⟨[2], [], [], [], []⟩
def f10B : Nat → Option Clean := lookL [(1000000, f10l1)]
abbrev f10i {ρ : Type} (N : Nat) (c : Code) (p : Plan) (σ : St) (K : KT ρ) : Option ρ := iCode f10G tab f10B N c p σ K
def f10c (n : Nat) : Code := codeN 99 (bodyOf Try.f10) n
theorem f10t0 N a (K : KT ρ) : f10i N (f10c 1) .n (f10s0 a) (joinK (some f10lE) K) =
 laws_FnExactIsAcyclic.Z0 N a (fun b => K .ret (f10s1 b)) := by kernel_rfl
theorem f10m (N : Nat) (a : MT) : f10i N (f10c 1) .n (f10s0 a) (joinK (some f10lE) (finK tab f10sig Try.f10.results.toList)) = laws_FnExactIsAcyclic.Z0 N a (fun b => some ((), (b, ()))) :=
 (f10t0 N a (finK tab f10sig Try.f10.results.toList)).trans (by kernel_rfl)
theorem f10ok (h : laws_FnExactIsAcyclic.Spec) : EntryOk Try.prog 10 e10 :=
 entry_of_code (sig := f10sig) (c := (f10c 1)) (pl := .n) (je := (some f10lE)) (B := f10B) Try.func10 (by kernel_rfl) (by kernel_rfl) (by kernel_rfl) tabOk f10GOk (by kernel_rfl) (by kernel_rfl) (by kernel_rfl) (by kernel_rfl) fun X hb hp => by
  obtain ⟨a, _⟩ := X
  obtain ⟨N, h⟩ := h a hb.1
  exact ⟨N, (f10m N a).trans (h N (Nat.le_refl N))⟩
theorem e10ok : EntryOk Try.prog 10 e10 := f10ok laws_FnExactIsAcyclic.ok
end Go.Fw
