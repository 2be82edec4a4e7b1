/- The ties: the program's text comes to the plain functions. Nothing is assumed. -/
import Derived.Test.YtojjkghallginaaFwb
import Derived.Test.YtojjkghallginaaProg
import Derived.Test.YtojjkghallginaaPuFnExactSymmetrizerOfa
set_option linter.unusedVariables false
set_option linter.unusedSimpArgs false
set_option maxRecDepth 100000
namespace Go.Fw
open Go.Proofs
def tab : Tab := lookTab [
  (2, ⟨false, .int .i64, [.int .i64 0], [], none, 8⟩),
  (3, ⟨false, .int .i64, [.int .i64 0], [], none, 8⟩),
  (4, ⟨false, .bool, [.bool false], [], none, 1⟩),
  (5, ⟨false, .int .u8, [.int .u8 0], [], none, 1⟩),
  (6, ⟨false, .int .u8, [.int .u8 0], [], none, 1⟩),
  (7, ⟨true, .pair (.int .i64) (.pair (.int .i64) (.pair (.bool) (.int .u8))), [.int .i64 0, .int .i64 0, .bool false, .int .u8 0], [(0, 1, false), (1, 1, false), (2, 1, false), (3, 1, false)], none, 24⟩),
  (8, ⟨true, .pair (.int .i64) (.pair (.int .i64) (.pair (.bool) (.int .u8))), [.int .i64 0, .int .i64 0, .bool false, .int .u8 0], [(0, 1, false), (1, 1, false), (2, 1, false), (3, 1, false)], none, 24⟩),
  (9, ⟨false, .str, [.str ByteArray.empty], [], none, 16⟩),
  (10, ⟨false, .str, [.str ByteArray.empty], [], none, 16⟩),
  (11, ⟨false, .str, [.str ByteArray.empty], [], none, 16⟩),
  (12, ⟨false, .int .u64, [.int .u64 0], [], none, 8⟩),
  (13, ⟨true, .pair (.str) (.int .u64), [.str ByteArray.empty, .int .u64 0], [(0, 1, false), (1, 1, false)], none, 24⟩),
  (14, ⟨true, .pair (.str) (.int .u64), [.str ByteArray.empty, .int .u64 0], [(0, 1, false), (1, 1, false)], none, 24⟩),
  (21, ⟨false, .int .i32, [.int .i32 0], [], none, 4⟩),
  (23, ⟨false, .sl 59 (.pair (.sl 3 (.int .i64)) (.int .i64)), [.nil], [], some 59, 24⟩),
  (24, ⟨true, .pair (.int .i64) (.sl 59 (.pair (.sl 3 (.int .i64)) (.int .i64))), [.int .i64 0, .nil], [(0, 1, false), (1, 1, false)], none, 32⟩),
  (25, ⟨true, .pair (.int .i64) (.sl 59 (.pair (.sl 3 (.int .i64)) (.int .i64))), [.int .i64 0, .nil], [(0, 1, false), (1, 1, false)], none, 32⟩),
  (30, ⟨false, .sl 3 (.int .i64), [.nil], [], some 3, 24⟩),
  (36, ⟨false, .sl 79 (.pair (.sl 3 (.int .i64)) (.int .i64)), [.nil], [], some 79, 24⟩),
  (37, ⟨true, .pair (.int .i64) (.sl 79 (.pair (.sl 3 (.int .i64)) (.int .i64))), [.int .i64 0, .nil], [(0, 1, false), (1, 1, false)], none, 32⟩),
  (38, ⟨true, .pair (.int .i64) (.sl 79 (.pair (.sl 3 (.int .i64)) (.int .i64))), [.int .i64 0, .nil], [(0, 1, false), (1, 1, false)], none, 32⟩),
  (43, ⟨true, .pair (.int .i64) (.pair (.int .i64) (.sl 3 (.int .i64))), [.int .i64 0, .int .i64 0, .nil], [(0, 1, false), (1, 1, false), (2, 1, false)], none, 40⟩),
  (44, ⟨true, .pair (.int .i64) (.pair (.int .i64) (.sl 3 (.int .i64))), [.int .i64 0, .int .i64 0, .nil], [(0, 1, false), (1, 1, false), (2, 1, false)], none, 40⟩),
  (47, ⟨true, .pair (.int .i64) (.pair (.int .i64) (.sl 3 (.int .i64))), [.int .i64 0, .int .i64 0, .nil], [(0, 1, false), (1, 1, false), (2, 1, false)], none, 40⟩),
  (58, ⟨true, .pair (.sl 3 (.int .i64)) (.int .i64), [.nil, .int .i64 0], [(0, 1, false), (1, 1, false)], none, 32⟩),
  (59, ⟨true, .pair (.sl 3 (.int .i64)) (.int .i64), [.nil, .int .i64 0], [(0, 1, false), (1, 1, false)], none, 32⟩),
  (71, ⟨false, .sl 4 (.bool), [.nil], [], some 4, 24⟩),
  (79, ⟨true, .pair (.sl 3 (.int .i64)) (.int .i64), [.nil, .int .i64 0], [(0, 1, false), (1, 1, false)], none, 32⟩),
  (92, ⟨false, .int .u32, [.int .u32 0], [], none, 4⟩),
  (93, ⟨false, .int .u8, [.int .u8 0], [], none, 1⟩),
  (94, ⟨false, .int .u8, [.int .u8 0], [], none, 1⟩),
  (97, ⟨false, .int .i32, [.int .i32 0], [], none, 4⟩),
  (98, ⟨false, .int .i32, [.int .i32 0], [], none, 4⟩)]
theorem tabOk : TOk Try.prog tab := TOk.of (by kernel_rfl)
end Go.Fw
set_option linter.unusedVariables false
set_option linter.unusedSimpArgs false
set_option maxRecDepth 100000
namespace Go.Fw
open Go.Proofs
/-! ### loop.example/g03115/laws.szIntS -/
noncomputable def f63sig : Sig := ⟨[⟨.sl 3 (.int .i64), false, false⟩, ⟨.int .i64, false, false⟩], [⟨.int .i64, false, false⟩]⟩
noncomputable def e63 : Entry := ⟨f63sig, none, fun X => ((), ((laws_szIntS.g X.1 X.2.1), ()))⟩
noncomputable def f63G : Nat → Option Entry := (fun _ => none)
theorem f63GOk : GOk Try.prog f63G := GOk.nil
noncomputable def f63lE : Clean := ⟨[], [], [], [], []⟩
noncomputable def f63s0 (a0 : List Int) (left1 : Int) : St := initSt f63sig.ps (a0, (left1, ()))
noncomputable def f63s1 (t4 : Int) : St := stOf [(4, .c (.int .i64 t4))] [] []
noncomputable def f63l1 : Clean := ⟨[4], [], [], [], []⟩
noncomputable def f63B : Nat → Option Clean := lookL [(1000000, f63l1)]
noncomputable abbrev f63i {ρ : Type} (N : Nat) (c : Code) (p : Plan) (σ : St) (K : KT ρ) : Option ρ := iCode f63G tab f63B N c p σ K
noncomputable def f63c0 := codeAt (bodyOf Try.f63) []
theorem f63t0 {ρ : Type} (N : Nat) (a0 : List Int) (left1 : Int) (K : KT ρ) : f63i N f63c0 .n (f63s0 a0 left1) (joinK (some f63lE) K) =
  laws_szIntS.Z0 N a0 left1 (fun t4 => K .ret (f63s1 t4)) := by kernel_rfl
theorem f63m (N : Nat) (a0 : List Int) (left1 : Int) : f63i N f63c0 .n (f63s0 a0 left1) (joinK (some f63lE) (finK tab f63sig Try.f63.results.toList)) = laws_szIntS.Z0 N a0 left1 (fun t4 => some ((), (t4, ()))) :=
  (f63t0 N a0 left1 (finK tab f63sig Try.f63.results.toList)).trans (by kernel_rfl)
theorem f63ok (h : laws_szIntS.Spec) : EntryOk Try.prog 63 e63 :=
  entry_of_code (sig := f63sig) (c := f63c0) (pl := .n) (je := (some f63lE)) (B := f63B) Try.func63 (by kernel_rfl) (by kernel_rfl) (by kernel_rfl) tabOk f63GOk (by kernel_rfl) (by kernel_rfl) (by kernel_rfl) (by kernel_rfl) fun X hb hp => by
    obtain ⟨a0, left1, _⟩ := X
    obtain ⟨N, h⟩ := h a0 left1 hb.1
    exact ⟨N, (f63m N a0 left1).trans (h N (Nat.le_refl N))⟩
theorem e63ok : EntryOk Try.prog 63 e63 := f63ok laws_szIntS.ok
end Go.Fw
set_option linter.unusedVariables false
set_option linter.unusedSimpArgs false
set_option maxRecDepth 100000
namespace Go.Fw
open Go.Proofs
/-! ### loop.example/g03115/laws.szMatrix -/
noncomputable def f30sig : Sig := ⟨[⟨.pair (.int .i64) (.pair (.int .i64) (.sl 3 (.int .i64))), true, false⟩, ⟨.int .i64, false, false⟩], [⟨.int .i64, false, false⟩]⟩
noncomputable def e30 : Entry := ⟨f30sig, none, fun X => ((), ((laws_szMatrix.g X.1 X.2.1), ()))⟩
noncomputable def f30G : Nat → Option Entry := addG (fun _ => none) 63 e63
theorem f30GOk : GOk Try.prog f30G := (GOk.nil).add e63ok (by kernel_rfl)
noncomputable def f30lE : Clean := ⟨[], [], [], [], []⟩
noncomputable def f30s0 (a0 : Int × Int × List Int) (left1 : Int) : St := initSt f30sig.ps (a0, (left1, ()))
noncomputable def f30s1 (t4 : Int) : St := stOf [(4, .c (.int .i64 t4))] [] []
noncomputable def f30l1 : Clean := ⟨[4], [], [], [], []⟩
noncomputable def f30B : Nat → Option Clean := lookL [(1000000, f30l1)]
noncomputable abbrev f30i {ρ : Type} (N : Nat) (c : Code) (p : Plan) (σ : St) (K : KT ρ) : Option ρ := iCode f30G tab f30B N c p σ K
noncomputable def f30c0 := codeAt (bodyOf Try.f30) []
theorem f30t0 {ρ : Type} (N : Nat) (a0 : Int × Int × List Int) (left1 : Int) (K : KT ρ) : f30i N f30c0 .n (f30s0 a0 left1) (joinK (some f30lE) K) =
  laws_szMatrix.Z0 N a0 left1 (fun t4 => K .ret (f30s1 t4)) := by kernel_rfl
theorem f30m (N : Nat) (a0 : Int × Int × List Int) (left1 : Int) : f30i N f30c0 .n (f30s0 a0 left1) (joinK (some f30lE) (finK tab f30sig Try.f30.results.toList)) = laws_szMatrix.Z0 N a0 left1 (fun t4 => some ((), (t4, ()))) :=
  (f30t0 N a0 left1 (finK tab f30sig Try.f30.results.toList)).trans (by kernel_rfl)
theorem f30ok (h : laws_szMatrix.Spec) : EntryOk Try.prog 30 e30 :=
  entry_of_code (sig := f30sig) (c := f30c0) (pl := .n) (je := (some f30lE)) (B := f30B) Try.func30 (by kernel_rfl) (by kernel_rfl) (by kernel_rfl) tabOk f30GOk (by kernel_rfl) (by kernel_rfl) (by kernel_rfl) (by kernel_rfl) fun X hb hp => by
    obtain ⟨a0, left1, _⟩ := X
    obtain ⟨N, h⟩ := h a0 left1 hb.1
    exact ⟨N, (f30m N a0 left1).trans (h N (Nat.le_refl N))⟩
theorem e30ok : EntryOk Try.prog 30 e30 := f30ok laws_szMatrix.ok
end Go.Fw
set_option linter.unusedVariables false
set_option linter.unusedSimpArgs false
set_option maxRecDepth 100000
namespace Go.Fw
open Go.Proofs
/-! ### loop.example/g03115/laws.toIntS -/
noncomputable def f20sig : Sig := ⟨[⟨.sl 3 (.int .i64), false, false⟩], [⟨.sl 3 (.int .i64), false, false⟩]⟩
noncomputable def e20 : Entry := ⟨f20sig, (some fun X => laws_toIntS.P X.1), fun X => ((), ((laws_toIntS.g X.1), ()))⟩
noncomputable def f20G : Nat → Option Entry := (fun _ => none)
theorem f20GOk : GOk Try.prog f20G := GOk.nil
noncomputable def f20lE : Clean := ⟨[], [], [], [], []⟩
noncomputable def f20s0 (a0 : List Int) : St := initSt f20sig.ps (a0, ())
noncomputable def f20s1 (a0 : List Int) : St := stOf [(0, .c (.sn 3 (.int .i64) a0 none))] [] []
noncomputable def f20l1 : Clean := ⟨[0], [], [], [], []⟩
noncomputable def f20s2 (out3 : List Int) (a0 : List Int) : St := stOf [(0, .c (.sn 3 (.int .i64) a0 none)), (3, .c (.own 1000192))] [] [(1000192, (⟨3, .int .i64, out3, true, false⟩ : Row))]
noncomputable def f20l2 : Clean := ⟨[0, 3], [], [], [], [(⟨false, 3, 0⟩, 1000192)]⟩
noncomputable def f20s3 (out3 : List Int) (a0 : List Int) (i4 : Int) : St := stOf [(0, .c (.sn 3 (.int .i64) a0 none)), (3, .c (.own 1000192)), (4, .c (.int .i64 i4))] [] [(1000192, (⟨3, .int .i64, out3, true, false⟩ : Row))]
noncomputable def f20l3 : Clean := ⟨[0, 3, 4], [], [], [], [(⟨false, 3, 0⟩, 1000192)]⟩
noncomputable def f20s4 (out3 : List Int) : St := stOf [(3, .c (.own 1000192))] [] [(1000192, (⟨3, .int .i64, out3, true, false⟩ : Row))]
noncomputable def f20l4 : Clean := ⟨[3], [], [], [], [(⟨false, 3, 0⟩, 1000192)]⟩
noncomputable def f20s5 (t2 : List Int) : St := stOf [(2, .c (.own 1000128))] [] [(1000128, (⟨3, .int .i64, t2, true, false⟩ : Row))]
noncomputable def f20l5 : Clean := ⟨[2], [], [], [], [(⟨false, 2, 0⟩, 1000128)]⟩
noncomputable def f20B : Nat → Option Clean := lookL [(0, f20l4), (1000000, f20l5)]
noncomputable abbrev f20i {ρ : Type} (N : Nat) (c : Code) (p : Plan) (σ : St) (K : KT ρ) : Option ρ := iCode f20G tab f20B N c p σ K
noncomputable def f20c1 := codeAt (bodyOf Try.f20) [0]
theorem f20t1 {ρ : Type} (N : Nat) (a0 : List Int) (K : KT ρ) : f20i N f20c1 .n (f20s0 a0) (joinK (some f20l1) K) =
  laws_toIntS.Z1 N a0 (fun a0 => K .nrm (f20s1 a0)) := by kernel_rfl
noncomputable def f20c3 := codeAt (bodyOf Try.f20) [1,0]
theorem f20t3 {ρ : Type} (N : Nat) (a0 : List Int) (K : KT ρ) : f20i N f20c3 .n (f20s1 a0) (joinK (some f20l2) K) =
  laws_toIntS.Z3 N a0 (fun out3 a0 => K .nrm (f20s2 out3 a0)) := by kernel_rfl
noncomputable def f20c6 := codeAt (bodyOf Try.f20) [1,1,0,0]
theorem f20t6 {ρ : Type} (N : Nat) (out3 : List Int) (a0 : List Int) (K : KT ρ) : f20i N f20c6 .n (f20s2 out3 a0) (joinK (some f20l3) K) =
  laws_toIntS.Z6 N out3 a0 (fun out3 a0 i4 => K .nrm (f20s3 out3 a0 i4)) := by kernel_rfl
noncomputable def f20c9 := codeAt (bodyOf Try.f20) [1,1,0,1,0,0]
theorem f20t9 {ρ : Type} (N : Nat) (out3 : List Int) (a0 : List Int) (i4 : Int) (K : KT ρ) : f20i N f20c9 .n (f20s3 out3 a0 i4) (joinK (some f20l3) K) =
  laws_toIntS.Z9 N out3 a0 i4 (fun out3 a0 i4 => K .nrm (f20s3 out3 a0 i4)) (fun out3 => K (.exit 0) (f20s4 out3)) := by kernel_rfl
noncomputable def f20c8 := codeAt (bodyOf Try.f20) [1,1,0,1,0]
noncomputable def f20p8 : Plan := .mk none (some f20l3) .n .n
noncomputable abbrev f20w8 {ρ : Type} (N : Nat) (M : Nat) (σ : St) (K : KT ρ) : Option ρ := loopC (fun σ K => f20i N f20c9 .n σ K) f20l3 M σ K
theorem f20t8L {ρ : Type} (N : Nat) (K : KT ρ) : ∀ (M : Nat) (out3 : List Int) (a0 : List Int) (i4 : Int), f20w8 N M (f20s3 out3 a0 i4) K =
  laws_toIntS.Z8L N (fun out3 => K (.exit 0) (f20s4 out3)) M out3 a0 i4
  | 0, _, _, _ => rfl
  | M + 1, out3, a0, i4 => viaRound (fun k => laws_toIntS.Z9 N out3 a0 i4 k (fun out3 => K (.exit 0) (f20s4 out3))) (f20t9 N out3 a0 i4 (seqK (fun σ => f20w8 N M σ K) K)) (funext fun out3 => funext fun a0 => funext fun i4 => f20t8L N K M out3 a0 i4) (by kernel_rfl) (by kernel_rfl)
theorem f20t8 {ρ : Type} (N : Nat) (out3 : List Int) (a0 : List Int) (i4 : Int) (K : KT ρ) : f20i N f20c8 f20p8 (f20s3 out3 a0 i4) (joinK (some f20l4) K) =
  laws_toIntS.Z8 N out3 a0 i4 (fun out3 => K (.exit 0) (f20s4 out3)) :=
  viaLoop (by kernel_rfl) (by kernel_rfl) (σ' := f20s3 out3 a0 i4) (by kernel_rfl) (f20t8L N (joinK (some f20l4) K) N out3 a0 i4) (by kernel_rfl)
noncomputable def f20c7 := codeAt (bodyOf Try.f20) [1,1,0,1]
noncomputable def f20p7 : Plan := .mk (some f20l4) none f20p8 .n
theorem f20t7 {ρ : Type} (N : Nat) (out3 : List Int) (a0 : List Int) (i4 : Int) (K : KT ρ) : f20i N f20c7 f20p7 (f20s3 out3 a0 i4) (joinK (some f20l4) K) =
  laws_toIntS.Z7 N out3 a0 i4 (fun out3 => K .nrm (f20s4 out3)) :=
  viaBlock (by kernel_rfl) (by kernel_rfl) (f20t8 N out3 a0 i4 (blockK 0 (joinK (some f20l4) K))) (by kernel_rfl)
noncomputable def f20c5 := codeAt (bodyOf Try.f20) [1,1,0]
noncomputable def f20p5 : Plan := .mk (some f20l3) none .n f20p7
theorem f20t5 {ρ : Type} (N : Nat) (out3 : List Int) (a0 : List Int) (K : KT ρ) : f20i N f20c5 f20p5 (f20s2 out3 a0) (joinK (some f20l4) K) =
  laws_toIntS.Z5 N out3 a0 (fun out3 => K .nrm (f20s4 out3)) :=
  viaSeq (fun k => laws_toIntS.Z6 N out3 a0 k) (by kernel_rfl) (by kernel_rfl) (f20t6 N out3 a0 (seqK (fun σ => f20i N f20c7 f20p7 σ (joinK (some f20l4) K)) (joinK (some f20l4) K))) (funext fun out3 => funext fun a0 => funext fun i4 => f20t7 N out3 a0 i4 K) (by kernel_rfl) (by kernel_rfl)
noncomputable def f20c10 := codeAt (bodyOf Try.f20) [1,1,1]
theorem f20t10 {ρ : Type} (N : Nat) (out3 : List Int) (K : KT ρ) : f20i N f20c10 .n (f20s4 out3) (joinK (some f20lE) K) =
  laws_toIntS.Z10 N out3 (fun t2 => K .ret (f20s5 t2)) := by kernel_rfl
noncomputable def f20c4 := codeAt (bodyOf Try.f20) [1,1]
noncomputable def f20p4 : Plan := .mk (some f20l4) none f20p5 .n
theorem f20t4 {ρ : Type} (N : Nat) (out3 : List Int) (a0 : List Int) (K : KT ρ) : f20i N f20c4 f20p4 (f20s2 out3 a0) (joinK (some f20lE) K) =
  laws_toIntS.Z4 N out3 a0 (fun t2 => K .ret (f20s5 t2)) :=
  viaSeq (fun k => laws_toIntS.Z5 N out3 a0 k) (by kernel_rfl) (by kernel_rfl) (f20t5 N out3 a0 (seqK (fun σ => f20i N f20c10 .n σ (joinK (some f20lE) K)) (joinK (some f20lE) K))) (funext fun out3 => f20t10 N out3 K) (by kernel_rfl) (by kernel_rfl)
noncomputable def f20c2 := codeAt (bodyOf Try.f20) [1]
noncomputable def f20p2 : Plan := .mk (some f20l2) none .n f20p4
theorem f20t2 {ρ : Type} (N : Nat) (a0 : List Int) (K : KT ρ) : f20i N f20c2 f20p2 (f20s1 a0) (joinK (some f20lE) K) =
  laws_toIntS.Z2 N a0 (fun t2 => K .ret (f20s5 t2)) :=
  viaSeq (fun k => laws_toIntS.Z3 N a0 k) (by kernel_rfl) (by kernel_rfl) (f20t3 N a0 (seqK (fun σ => f20i N f20c4 f20p4 σ (joinK (some f20lE) K)) (joinK (some f20lE) K))) (funext fun out3 => funext fun a0 => f20t4 N out3 a0 K) (by kernel_rfl) (by kernel_rfl)
noncomputable def f20c0 := codeAt (bodyOf Try.f20) []
noncomputable def f20p0 : Plan := .mk (some f20l1) none .n f20p2
theorem f20t0 {ρ : Type} (N : Nat) (a0 : List Int) (K : KT ρ) : f20i N f20c0 f20p0 (f20s0 a0) (joinK (some f20lE) K) =
  laws_toIntS.Z0 N a0 (fun t2 => K .ret (f20s5 t2)) :=
  viaSeq (fun k => laws_toIntS.Z1 N a0 k) (by kernel_rfl) (by kernel_rfl) (f20t1 N a0 (seqK (fun σ => f20i N f20c2 f20p2 σ (joinK (some f20lE) K)) (joinK (some f20lE) K))) (funext fun a0 => f20t2 N a0 K) (by kernel_rfl) (by kernel_rfl)
theorem f20m (N : Nat) (a0 : List Int) : f20i N f20c0 f20p0 (f20s0 a0) (joinK (some f20lE) (finK tab f20sig Try.f20.results.toList)) = laws_toIntS.Z0 N a0 (fun t2 => some ((), (t2, ()))) :=
  (f20t0 N a0 (finK tab f20sig Try.f20.results.toList)).trans (by kernel_rfl)
theorem f20ok (h : laws_toIntS.Spec) : EntryOk Try.prog 20 e20 :=
  entry_of_code (sig := f20sig) (c := f20c0) (pl := f20p0) (je := (some f20lE)) (B := f20B) Try.func20 (by kernel_rfl) (by kernel_rfl) (by kernel_rfl) tabOk f20GOk (by kernel_rfl) (by kernel_rfl) (by kernel_rfl) (by kernel_rfl) fun X hb hp => by
    obtain ⟨a0, _⟩ := X
    obtain ⟨N, h⟩ := h a0 hb.1 hp
    exact ⟨N, (f20m N a0).trans (h N (Nat.le_refl N))⟩
theorem e20ok : EntryOk Try.prog 20 e20 := f20ok laws_toIntS.ok
end Go.Fw
set_option linter.unusedVariables false
set_option linter.unusedSimpArgs false
set_option maxRecDepth 100000
namespace Go.Fw
open Go.Proofs
/-! ### loop.example/g03115/laws.toMatrix -/
noncomputable def f32sig : Sig := ⟨[⟨.pair (.int .i64) (.pair (.int .i64) (.sl 3 (.int .i64))), true, false⟩], [⟨.pair (.int .i64) (.pair (.int .i64) (.sl 3 (.int .i64))), true, false⟩]⟩
noncomputable def e32 : Entry := ⟨f32sig, (some fun X => laws_toMatrix.P X.1), fun X => ((), ((laws_toMatrix.g X.1), ()))⟩
noncomputable def f32G : Nat → Option Entry := addG (fun _ => none) 20 e20
theorem f32GOk : GOk Try.prog f32G := (GOk.nil).add e20ok (by kernel_rfl)
noncomputable def f32lE : Clean := ⟨[], [], [], [], []⟩
noncomputable def f32s0 (a0 : Int × Int × List Int) : St := initSt f32sig.ps (a0, ())
noncomputable def f32s1 (t2_2 : List Int) (t2_0 : Int) (t2_1 : Int) : St := stOf [(2, .c (.box 2 0))] [(2, (47, [.int .i64 t2_0, .int .i64 t2_1, .own 20000130]))] [(20000130, (⟨3, .int .i64, t2_2, true, false⟩ : Row))]
noncomputable def f32l1 : Clean := ⟨[2], [2], [], [], [(⟨true, 2, 2⟩, 20000130)]⟩
noncomputable def f32B : Nat → Option Clean := lookL [(1000000, f32l1)]
noncomputable abbrev f32i {ρ : Type} (N : Nat) (c : Code) (p : Plan) (σ : St) (K : KT ρ) : Option ρ := iCode f32G tab f32B N c p σ K
noncomputable def f32c0 := codeAt (bodyOf Try.f32) []
theorem f32t0 {ρ : Type} (N : Nat) (a0 : Int × Int × List Int) (K : KT ρ) : f32i N f32c0 .n (f32s0 a0) (joinK (some f32lE) K) =
  laws_toMatrix.Z0 N a0 (fun t2_2 t2_0 t2_1 => K .ret (f32s1 t2_2 t2_0 t2_1)) := by kernel_rfl
theorem f32m (N : Nat) (a0 : Int × Int × List Int) : f32i N f32c0 .n (f32s0 a0) (joinK (some f32lE) (finK tab f32sig Try.f32.results.toList)) = laws_toMatrix.Z0 N a0 (fun t2_2 t2_0 t2_1 => some ((), ((t2_0, (t2_1, t2_2)), ()))) :=
  (f32t0 N a0 (finK tab f32sig Try.f32.results.toList)).trans (by kernel_rfl)
theorem f32ok (h : laws_toMatrix.Spec) : EntryOk Try.prog 32 e32 :=
  entry_of_code (sig := f32sig) (c := f32c0) (pl := .n) (je := (some f32lE)) (B := f32B) Try.func32 (by kernel_rfl) (by kernel_rfl) (by kernel_rfl) tabOk f32GOk (by kernel_rfl) (by kernel_rfl) (by kernel_rfl) (by kernel_rfl) fun X hb hp => by
    obtain ⟨a0, _⟩ := X
    obtain ⟨N, h⟩ := h a0 hb.1 hp
    exact ⟨N, (f32m N a0).trans (h N (Nat.le_refl N))⟩
theorem e32ok : EntryOk Try.prog 32 e32 := f32ok laws_toMatrix.ok
end Go.Fw
set_option linter.unusedVariables false
set_option linter.unusedSimpArgs false
set_option maxRecDepth 100000
namespace Go.Fw
open Go.Proofs
/-! ### loop.example/g03115/spec.l1In -/
noncomputable def f48sig : Sig := ⟨[⟨.int .i64, false, false⟩, ⟨.int .i64, false, false⟩, ⟨.int .i64, false, false⟩], [⟨.bool, false, false⟩]⟩
noncomputable def e48 : Entry := ⟨f48sig, none, fun X => ((), ((spec_l1In.g X.1 X.2.1 X.2.2.1), ()))⟩
noncomputable def f48G : Nat → Option Entry := (fun _ => none)
theorem f48GOk : GOk Try.prog f48G := GOk.nil
noncomputable def f48lE : Clean := ⟨[], [], [], [], []⟩
noncomputable def f48s0 (n0 : Int) (low1 : Int) (high2 : Int) : St := initSt f48sig.ps (n0, (low1, (high2, ())))
noncomputable def f48s1 (t6 : Bool) : St := stOf [(6, .c (.bool t6))] [] []
noncomputable def f48l1 : Clean := ⟨[6], [], [], [], []⟩
noncomputable def f48B : Nat → Option Clean := lookL [(1000000, f48l1)]
noncomputable abbrev f48i {ρ : Type} (N : Nat) (c : Code) (p : Plan) (σ : St) (K : KT ρ) : Option ρ := iCode f48G tab f48B N c p σ K
noncomputable def f48c0 := codeAt (bodyOf Try.f48) []
theorem f48t0 {ρ : Type} (N : Nat) (n0 : Int) (low1 : Int) (high2 : Int) (K : KT ρ) : f48i N f48c0 .n (f48s0 n0 low1 high2) (joinK (some f48lE) K) =
  spec_l1In.Z0 N n0 low1 high2 (fun t6 => K .ret (f48s1 t6)) := by kernel_rfl
theorem f48m (N : Nat) (n0 : Int) (low1 : Int) (high2 : Int) : f48i N f48c0 .n (f48s0 n0 low1 high2) (joinK (some f48lE) (finK tab f48sig Try.f48.results.toList)) = spec_l1In.Z0 N n0 low1 high2 (fun t6 => some ((), (t6, ()))) :=
  (f48t0 N n0 low1 high2 (finK tab f48sig Try.f48.results.toList)).trans (by kernel_rfl)
theorem f48ok (h : spec_l1In.Spec) : EntryOk Try.prog 48 e48 :=
  entry_of_code (sig := f48sig) (c := f48c0) (pl := .n) (je := (some f48lE)) (B := f48B) Try.func48 (by kernel_rfl) (by kernel_rfl) (by kernel_rfl) tabOk f48GOk (by kernel_rfl) (by kernel_rfl) (by kernel_rfl) (by kernel_rfl) fun X hb hp => by
    obtain ⟨n0, low1, high2, _⟩ := X
    obtain ⟨N, h⟩ := h n0 low1 high2
    exact ⟨N, (f48m N n0 low1 high2).trans (h N (Nat.le_refl N))⟩
theorem e48ok : EntryOk Try.prog 48 e48 := f48ok spec_l1In.ok
end Go.Fw
set_option linter.unusedVariables false
set_option linter.unusedSimpArgs false
set_option maxRecDepth 100000
namespace Go.Fw
open Go.Proofs
/-! ### loop.example/g03115/spec.l1At -/
noncomputable def f68sig : Sig := ⟨[⟨.pair (.int .i64) (.pair (.int .i64) (.sl 3 (.int .i64))), true, false⟩, ⟨.int .i64, false, false⟩, ⟨.int .i64, false, false⟩], [⟨.int .i64, false, false⟩]⟩
noncomputable def e68 : Entry := ⟨f68sig, (some fun X => spec_l1At.P X.1 X.2.1 X.2.2.1), fun X => ((), ((spec_l1At.g X.1 X.2.1 X.2.2.1), ()))⟩
noncomputable def f68G : Nat → Option Entry := (fun _ => none)
theorem f68GOk : GOk Try.prog f68G := GOk.nil
noncomputable def f68lE : Clean := ⟨[], [], [], [], []⟩
noncomputable def f68s0 (m0 : Int × Int × List Int) (i1 : Int) (j2 : Int) : St := initSt f68sig.ps (m0, (i1, (j2, ())))
noncomputable def f68s1 (t6 : Int) : St := stOf [(6, .c (.int .i64 t6))] [] []
noncomputable def f68l1 : Clean := ⟨[6], [], [], [], []⟩
noncomputable def f68B : Nat → Option Clean := lookL [(1000000, f68l1)]
noncomputable abbrev f68i {ρ : Type} (N : Nat) (c : Code) (p : Plan) (σ : St) (K : KT ρ) : Option ρ := iCode f68G tab f68B N c p σ K
noncomputable def f68c0 := codeAt (bodyOf Try.f68) []
theorem f68t0 {ρ : Type} (N : Nat) (m0 : Int × Int × List Int) (i1 : Int) (j2 : Int) (K : KT ρ) : f68i N f68c0 .n (f68s0 m0 i1 j2) (joinK (some f68lE) K) =
  spec_l1At.Z0 N m0 i1 j2 (fun t6 => K .ret (f68s1 t6)) := by kernel_rfl
theorem f68m (N : Nat) (m0 : Int × Int × List Int) (i1 : Int) (j2 : Int) : f68i N f68c0 .n (f68s0 m0 i1 j2) (joinK (some f68lE) (finK tab f68sig Try.f68.results.toList)) = spec_l1At.Z0 N m0 i1 j2 (fun t6 => some ((), (t6, ()))) :=
  (f68t0 N m0 i1 j2 (finK tab f68sig Try.f68.results.toList)).trans (by kernel_rfl)
theorem f68ok (h : spec_l1At.Spec) : EntryOk Try.prog 68 e68 :=
  entry_of_code (sig := f68sig) (c := f68c0) (pl := .n) (je := (some f68lE)) (B := f68B) Try.func68 (by kernel_rfl) (by kernel_rfl) (by kernel_rfl) tabOk f68GOk (by kernel_rfl) (by kernel_rfl) (by kernel_rfl) (by kernel_rfl) fun X hb hp => by
    obtain ⟨m0, i1, j2, _⟩ := X
    obtain ⟨N, h⟩ := h m0 i1 j2 hb.1 hp
    exact ⟨N, (f68m N m0 i1 j2).trans (h N (Nat.le_refl N))⟩
theorem e68ok : EntryOk Try.prog 68 e68 := f68ok spec_l1At.ok
end Go.Fw
set_option linter.unusedVariables false
set_option linter.unusedSimpArgs false
set_option maxRecDepth 100000
namespace Go.Fw
open Go.Proofs
/-! ### loop.example/g03115/spec.l1Sizes -/
noncomputable def f64sig : Sig := ⟨[⟨.pair (.int .i64) (.pair (.int .i64) (.sl 3 (.int .i64))), true, false⟩], [⟨.bool, false, false⟩]⟩
noncomputable def e64 : Entry := ⟨f64sig, none, fun X => ((), ((spec_l1Sizes.g X.1), ()))⟩
noncomputable def f64G : Nat → Option Entry := addG (addG (fun _ => none) 48 e48) 68 e68
theorem f64GOk : GOk Try.prog f64G := ((GOk.nil).add e48ok (by kernel_rfl)).add e68ok (by kernel_rfl)
noncomputable def f64lE : Clean := ⟨[], [], [], [], []⟩
noncomputable def f64s0 (m0 : Int × Int × List Int) : St := initSt f64sig.ps (m0, ())
noncomputable def f64s1 (m1_0 : Int) (m1_1 : Int) (m1_2 : List Int) : St := stOf [(1, .c (.box 1 0))] [(1, (47, [.int .i64 m1_0, .int .i64 m1_1, .sn 3 (.int .i64) m1_2 none]))] []
noncomputable def f64l1 : Clean := ⟨[1], [1], [], [], []⟩
noncomputable def f64s2 (i3 : Int) (m1_0 : Int) (m1_1 : Int) (m1_2 : List Int) : St := stOf [(1, .c (.box 1 0)), (3, .c (.int .i64 i3))] [(1, (47, [.int .i64 m1_0, .int .i64 m1_1, .sn 3 (.int .i64) m1_2 none]))] []
noncomputable def f64l2 : Clean := ⟨[1, 3], [1], [], [], []⟩
noncomputable def f64s3 (i4 : Int) (m1_0 : Int) (m1_1 : Int) (m1_2 : List Int) : St := stOf [(1, .c (.box 1 0)), (4, .c (.int .i64 i4))] [(1, (47, [.int .i64 m1_0, .int .i64 m1_1, .sn 3 (.int .i64) m1_2 none]))] []
noncomputable def f64l3 : Clean := ⟨[1, 4], [1], [], [], []⟩
noncomputable def f64s4 (i4 : Int) (j5 : Int) (m1_0 : Int) (m1_1 : Int) (m1_2 : List Int) : St := stOf [(1, .c (.box 1 0)), (4, .c (.int .i64 i4)), (5, .c (.int .i64 j5))] [(1, (47, [.int .i64 m1_0, .int .i64 m1_1, .sn 3 (.int .i64) m1_2 none]))] []
noncomputable def f64l4 : Clean := ⟨[1, 4, 5], [1], [], [], []⟩
noncomputable def f64s5  : St := stOf [] [] []
noncomputable def f64l5 : Clean := ⟨[], [], [], [], []⟩
noncomputable def f64s6 (t2 : Bool) : St := stOf [(2, .c (.bool t2))] [] []
noncomputable def f64l6 : Clean := ⟨[2], [], [], [], []⟩
noncomputable def f64B : Nat → Option Clean := lookL [(0, f64l1), (4, f64l3), (3, f64l3), (2, f64l5), (1000000, f64l6)]
noncomputable abbrev f64i {ρ : Type} (N : Nat) (c : Code) (p : Plan) (σ : St) (K : KT ρ) : Option ρ := iCode f64G tab f64B N c p σ K
noncomputable def f64c1 := codeAt (bodyOf Try.f64) [0]
theorem f64t1 {ρ : Type} (N : Nat) (m0 : Int × Int × List Int) (K : KT ρ) : f64i N f64c1 .n (f64s0 m0) (joinK (some f64l1) K) =
  spec_l1Sizes.Z1 N m0 (fun m1_0 m1_1 m1_2 => K .nrm (f64s1 m1_0 m1_1 m1_2)) := by kernel_rfl
noncomputable def f64c3 := codeAt (bodyOf Try.f64) [1,0]
theorem f64t3 {ρ : Type} (N : Nat) (m1_0 : Int) (m1_1 : Int) (m1_2 : List Int) (K : KT ρ) : f64i N f64c3 .n (f64s1 m1_0 m1_1 m1_2) (joinK (some f64l1) K) =
  spec_l1Sizes.Z3 N m1_0 m1_1 m1_2 (fun m1_0 m1_1 m1_2 => K .nrm (f64s1 m1_0 m1_1 m1_2)) (fun t2 => K .ret (f64s6 t2)) := by kernel_rfl
noncomputable def f64c6 := codeAt (bodyOf Try.f64) [1,1,0,0]
theorem f64t6 {ρ : Type} (N : Nat) (m1_0 : Int) (m1_1 : Int) (m1_2 : List Int) (K : KT ρ) : f64i N f64c6 .n (f64s1 m1_0 m1_1 m1_2) (joinK (some f64l2) K) =
  spec_l1Sizes.Z6 N m1_0 m1_1 m1_2 (fun i3 m1_0 m1_1 m1_2 => K .nrm (f64s2 i3 m1_0 m1_1 m1_2)) := by kernel_rfl
noncomputable def f64c9 := codeAt (bodyOf Try.f64) [1,1,0,1,0,0]
theorem f64t9 {ρ : Type} (N : Nat) (i3 : Int) (m1_0 : Int) (m1_1 : Int) (m1_2 : List Int) (K : KT ρ) : f64i N f64c9 .n (f64s2 i3 m1_0 m1_1 m1_2) (joinK (some f64l2) K) =
  spec_l1Sizes.Z9 N i3 m1_0 m1_1 m1_2 (fun i3 m1_0 m1_1 m1_2 => K .nrm (f64s2 i3 m1_0 m1_1 m1_2)) (fun m1_0 m1_1 m1_2 => K (.exit 0) (f64s1 m1_0 m1_1 m1_2)) (fun t2 => K .ret (f64s6 t2)) := by kernel_rfl
noncomputable def f64c8 := codeAt (bodyOf Try.f64) [1,1,0,1,0]
noncomputable def f64p8 : Plan := .mk none (some f64l2) .n .n
noncomputable abbrev f64w8 {ρ : Type} (N : Nat) (M : Nat) (σ : St) (K : KT ρ) : Option ρ := loopC (fun σ K => f64i N f64c9 .n σ K) f64l2 M σ K
theorem f64t8L {ρ : Type} (N : Nat) (K : KT ρ) : ∀ (M : Nat) (i3 : Int) (m1_0 : Int) (m1_1 : Int) (m1_2 : List Int), f64w8 N M (f64s2 i3 m1_0 m1_1 m1_2) K =
  spec_l1Sizes.Z8L N (fun m1_0 m1_1 m1_2 => K (.exit 0) (f64s1 m1_0 m1_1 m1_2)) (fun t2 => K .ret (f64s6 t2)) M i3 m1_0 m1_1 m1_2
  | 0, _, _, _, _ => rfl
  | M + 1, i3, m1_0, m1_1, m1_2 => viaRound (fun k => spec_l1Sizes.Z9 N i3 m1_0 m1_1 m1_2 k (fun m1_0 m1_1 m1_2 => K (.exit 0) (f64s1 m1_0 m1_1 m1_2)) (fun t2 => K .ret (f64s6 t2))) (f64t9 N i3 m1_0 m1_1 m1_2 (seqK (fun σ => f64w8 N M σ K) K)) (funext fun i3 => funext fun m1_0 => funext fun m1_1 => funext fun m1_2 => f64t8L N K M i3 m1_0 m1_1 m1_2) (by kernel_rfl) (by kernel_rfl)
theorem f64t8 {ρ : Type} (N : Nat) (i3 : Int) (m1_0 : Int) (m1_1 : Int) (m1_2 : List Int) (K : KT ρ) : f64i N f64c8 f64p8 (f64s2 i3 m1_0 m1_1 m1_2) (joinK (some f64l1) K) =
  spec_l1Sizes.Z8 N i3 m1_0 m1_1 m1_2 (fun m1_0 m1_1 m1_2 => K (.exit 0) (f64s1 m1_0 m1_1 m1_2)) (fun t2 => K .ret (f64s6 t2)) :=
  viaLoop (by kernel_rfl) (by kernel_rfl) (σ' := f64s2 i3 m1_0 m1_1 m1_2) (by kernel_rfl) (f64t8L N (joinK (some f64l1) K) N i3 m1_0 m1_1 m1_2) (by kernel_rfl)
noncomputable def f64c7 := codeAt (bodyOf Try.f64) [1,1,0,1]
noncomputable def f64p7 : Plan := .mk (some f64l1) none f64p8 .n
theorem f64t7 {ρ : Type} (N : Nat) (i3 : Int) (m1_0 : Int) (m1_1 : Int) (m1_2 : List Int) (K : KT ρ) : f64i N f64c7 f64p7 (f64s2 i3 m1_0 m1_1 m1_2) (joinK (some f64l1) K) =
  spec_l1Sizes.Z7 N i3 m1_0 m1_1 m1_2 (fun m1_0 m1_1 m1_2 => K .nrm (f64s1 m1_0 m1_1 m1_2)) (fun t2 => K .ret (f64s6 t2)) :=
  viaBlock (by kernel_rfl) (by kernel_rfl) (f64t8 N i3 m1_0 m1_1 m1_2 (blockK 0 (joinK (some f64l1) K))) (by kernel_rfl)
noncomputable def f64c5 := codeAt (bodyOf Try.f64) [1,1,0]
noncomputable def f64p5 : Plan := .mk (some f64l2) none .n f64p7
theorem f64t5 {ρ : Type} (N : Nat) (m1_0 : Int) (m1_1 : Int) (m1_2 : List Int) (K : KT ρ) : f64i N f64c5 f64p5 (f64s1 m1_0 m1_1 m1_2) (joinK (some f64l1) K) =
  spec_l1Sizes.Z5 N m1_0 m1_1 m1_2 (fun m1_0 m1_1 m1_2 => K .nrm (f64s1 m1_0 m1_1 m1_2)) (fun t2 => K .ret (f64s6 t2)) :=
  viaSeq (fun k => spec_l1Sizes.Z6 N m1_0 m1_1 m1_2 k) (by kernel_rfl) (by kernel_rfl) (f64t6 N m1_0 m1_1 m1_2 (seqK (fun σ => f64i N f64c7 f64p7 σ (joinK (some f64l1) K)) (joinK (some f64l1) K))) (funext fun i3 => funext fun m1_0 => funext fun m1_1 => funext fun m1_2 => f64t7 N i3 m1_0 m1_1 m1_2 K) (by kernel_rfl) (by kernel_rfl)
noncomputable def f64c12 := codeAt (bodyOf Try.f64) [1,1,1,0,0]
theorem f64t12 {ρ : Type} (N : Nat) (m1_0 : Int) (m1_1 : Int) (m1_2 : List Int) (K : KT ρ) : f64i N f64c12 .n (f64s1 m1_0 m1_1 m1_2) (joinK (some f64l3) K) =
  spec_l1Sizes.Z12 N m1_0 m1_1 m1_2 (fun i4 m1_0 m1_1 m1_2 => K .nrm (f64s3 i4 m1_0 m1_1 m1_2)) := by kernel_rfl
noncomputable def f64c16 := codeAt (bodyOf Try.f64) [1,1,1,0,1,0,0,0]
theorem f64t16 {ρ : Type} (N : Nat) (i4 : Int) (m1_0 : Int) (m1_1 : Int) (m1_2 : List Int) (K : KT ρ) : f64i N f64c16 .n (f64s3 i4 m1_0 m1_1 m1_2) (joinK (some f64l3) K) =
  spec_l1Sizes.Z16 N i4 m1_0 m1_1 m1_2 (fun i4 m1_0 m1_1 m1_2 => K .nrm (f64s3 i4 m1_0 m1_1 m1_2)) (K (.exit 2) f64s5) := by kernel_rfl
noncomputable def f64c20 := codeAt (bodyOf Try.f64) [1,1,1,0,1,0,0,1,0,0,0]
theorem f64t20 {ρ : Type} (N : Nat) (i4 : Int) (m1_0 : Int) (m1_1 : Int) (m1_2 : List Int) (K : KT ρ) : f64i N f64c20 .n (f64s3 i4 m1_0 m1_1 m1_2) (joinK (some f64l4) K) =
  spec_l1Sizes.Z20 N i4 m1_0 m1_1 m1_2 (fun i4 j5 m1_0 m1_1 m1_2 => K .nrm (f64s4 i4 j5 m1_0 m1_1 m1_2)) := by kernel_rfl
noncomputable def f64c23 := codeAt (bodyOf Try.f64) [1,1,1,0,1,0,0,1,0,0,1,0,0]
theorem f64t23 {ρ : Type} (N : Nat) (i4 : Int) (j5 : Int) (m1_0 : Int) (m1_1 : Int) (m1_2 : List Int) (K : KT ρ) : f64i N f64c23 .n (f64s4 i4 j5 m1_0 m1_1 m1_2) (joinK (some f64l4) K) =
  spec_l1Sizes.Z23 N i4 j5 m1_0 m1_1 m1_2 (fun i4 j5 m1_0 m1_1 m1_2 => K .nrm (f64s4 i4 j5 m1_0 m1_1 m1_2)) (fun i4 m1_0 m1_1 m1_2 => K (.exit 4) (f64s3 i4 m1_0 m1_1 m1_2)) (fun t2 => K .ret (f64s6 t2)) := by kernel_rfl
noncomputable def f64c22 := codeAt (bodyOf Try.f64) [1,1,1,0,1,0,0,1,0,0,1,0]
noncomputable def f64p22 : Plan := .mk none (some f64l4) .n .n
noncomputable abbrev f64w22 {ρ : Type} (N : Nat) (M : Nat) (σ : St) (K : KT ρ) : Option ρ := loopC (fun σ K => f64i N f64c23 .n σ K) f64l4 M σ K
theorem f64t22L {ρ : Type} (N : Nat) (K : KT ρ) : ∀ (M : Nat) (i4 : Int) (j5 : Int) (m1_0 : Int) (m1_1 : Int) (m1_2 : List Int), f64w22 N M (f64s4 i4 j5 m1_0 m1_1 m1_2) K =
  spec_l1Sizes.Z22L N (fun i4 m1_0 m1_1 m1_2 => K (.exit 4) (f64s3 i4 m1_0 m1_1 m1_2)) (fun t2 => K .ret (f64s6 t2)) M i4 j5 m1_0 m1_1 m1_2
  | 0, _, _, _, _, _ => rfl
  | M + 1, i4, j5, m1_0, m1_1, m1_2 => viaRound (fun k => spec_l1Sizes.Z23 N i4 j5 m1_0 m1_1 m1_2 k (fun i4 m1_0 m1_1 m1_2 => K (.exit 4) (f64s3 i4 m1_0 m1_1 m1_2)) (fun t2 => K .ret (f64s6 t2))) (f64t23 N i4 j5 m1_0 m1_1 m1_2 (seqK (fun σ => f64w22 N M σ K) K)) (funext fun i4 => funext fun j5 => funext fun m1_0 => funext fun m1_1 => funext fun m1_2 => f64t22L N K M i4 j5 m1_0 m1_1 m1_2) (by kernel_rfl) (by kernel_rfl)
theorem f64t22 {ρ : Type} (N : Nat) (i4 : Int) (j5 : Int) (m1_0 : Int) (m1_1 : Int) (m1_2 : List Int) (K : KT ρ) : f64i N f64c22 f64p22 (f64s4 i4 j5 m1_0 m1_1 m1_2) (joinK (some f64l3) K) =
  spec_l1Sizes.Z22 N i4 j5 m1_0 m1_1 m1_2 (fun i4 m1_0 m1_1 m1_2 => K (.exit 4) (f64s3 i4 m1_0 m1_1 m1_2)) (fun t2 => K .ret (f64s6 t2)) :=
  viaLoop (by kernel_rfl) (by kernel_rfl) (σ' := f64s4 i4 j5 m1_0 m1_1 m1_2) (by kernel_rfl) (f64t22L N (joinK (some f64l3) K) N i4 j5 m1_0 m1_1 m1_2) (by kernel_rfl)
noncomputable def f64c21 := codeAt (bodyOf Try.f64) [1,1,1,0,1,0,0,1,0,0,1]
noncomputable def f64p21 : Plan := .mk (some f64l3) none f64p22 .n
theorem f64t21 {ρ : Type} (N : Nat) (i4 : Int) (j5 : Int) (m1_0 : Int) (m1_1 : Int) (m1_2 : List Int) (K : KT ρ) : f64i N f64c21 f64p21 (f64s4 i4 j5 m1_0 m1_1 m1_2) (joinK (some f64l3) K) =
  spec_l1Sizes.Z21 N i4 j5 m1_0 m1_1 m1_2 (fun i4 m1_0 m1_1 m1_2 => K .nrm (f64s3 i4 m1_0 m1_1 m1_2)) (fun t2 => K .ret (f64s6 t2)) :=
  viaBlock (by kernel_rfl) (by kernel_rfl) (f64t22 N i4 j5 m1_0 m1_1 m1_2 (blockK 4 (joinK (some f64l3) K))) (by kernel_rfl)
noncomputable def f64c19 := codeAt (bodyOf Try.f64) [1,1,1,0,1,0,0,1,0,0]
noncomputable def f64p19 : Plan := .mk (some f64l4) none .n f64p21
theorem f64t19 {ρ : Type} (N : Nat) (i4 : Int) (m1_0 : Int) (m1_1 : Int) (m1_2 : List Int) (K : KT ρ) : f64i N f64c19 f64p19 (f64s3 i4 m1_0 m1_1 m1_2) (joinK (some f64l3) K) =
  spec_l1Sizes.Z19 N i4 m1_0 m1_1 m1_2 (fun i4 m1_0 m1_1 m1_2 => K .nrm (f64s3 i4 m1_0 m1_1 m1_2)) (fun t2 => K .ret (f64s6 t2)) :=
  viaSeq (fun k => spec_l1Sizes.Z20 N i4 m1_0 m1_1 m1_2 k) (by kernel_rfl) (by kernel_rfl) (f64t20 N i4 m1_0 m1_1 m1_2 (seqK (fun σ => f64i N f64c21 f64p21 σ (joinK (some f64l3) K)) (joinK (some f64l3) K))) (funext fun i4 => funext fun j5 => funext fun m1_0 => funext fun m1_1 => funext fun m1_2 => f64t21 N i4 j5 m1_0 m1_1 m1_2 K) (by kernel_rfl) (by kernel_rfl)
noncomputable def f64c18 := codeAt (bodyOf Try.f64) [1,1,1,0,1,0,0,1,0]
noncomputable def f64p18 : Plan := .mk (some f64l3) none f64p19 .n
theorem f64t18 {ρ : Type} (N : Nat) (i4 : Int) (m1_0 : Int) (m1_1 : Int) (m1_2 : List Int) (K : KT ρ) : f64i N f64c18 f64p18 (f64s3 i4 m1_0 m1_1 m1_2) (joinK (some f64l3) K) =
  spec_l1Sizes.Z18 N i4 m1_0 m1_1 m1_2 (fun i4 m1_0 m1_1 m1_2 => K .nrm (f64s3 i4 m1_0 m1_1 m1_2)) (fun t2 => K .ret (f64s6 t2)) :=
  viaBlock (by kernel_rfl) (by kernel_rfl) (f64t19 N i4 m1_0 m1_1 m1_2 (blockK 3 (joinK (some f64l3) K))) (by kernel_rfl)
noncomputable def f64c24 := codeAt (bodyOf Try.f64) [1,1,1,0,1,0,0,1,1]
theorem f64t24 {ρ : Type} (N : Nat) (i4 : Int) (m1_0 : Int) (m1_1 : Int) (m1_2 : List Int) (K : KT ρ) : f64i N f64c24 .n (f64s3 i4 m1_0 m1_1 m1_2) (joinK (some f64l3) K) =
  spec_l1Sizes.Z24 N i4 m1_0 m1_1 m1_2 (fun i4 m1_0 m1_1 m1_2 => K .nrm (f64s3 i4 m1_0 m1_1 m1_2)) := by kernel_rfl
noncomputable def f64c17 := codeAt (bodyOf Try.f64) [1,1,1,0,1,0,0,1]
noncomputable def f64p17 : Plan := .mk (some f64l3) none f64p18 .n
theorem f64t17 {ρ : Type} (N : Nat) (i4 : Int) (m1_0 : Int) (m1_1 : Int) (m1_2 : List Int) (K : KT ρ) : f64i N f64c17 f64p17 (f64s3 i4 m1_0 m1_1 m1_2) (joinK (some f64l3) K) =
  spec_l1Sizes.Z17 N i4 m1_0 m1_1 m1_2 (fun i4 m1_0 m1_1 m1_2 => K .nrm (f64s3 i4 m1_0 m1_1 m1_2)) (fun t2 => K .ret (f64s6 t2)) :=
  viaSeq (fun k => spec_l1Sizes.Z18 N i4 m1_0 m1_1 m1_2 k (fun t2 => K .ret (f64s6 t2))) (by kernel_rfl) (by kernel_rfl) (f64t18 N i4 m1_0 m1_1 m1_2 (seqK (fun σ => f64i N f64c24 .n σ (joinK (some f64l3) K)) (joinK (some f64l3) K))) (funext fun i4 => funext fun m1_0 => funext fun m1_1 => funext fun m1_2 => f64t24 N i4 m1_0 m1_1 m1_2 K) (by kernel_rfl) (by kernel_rfl)
noncomputable def f64c15 := codeAt (bodyOf Try.f64) [1,1,1,0,1,0,0]
noncomputable def f64p15 : Plan := .mk (some f64l3) none .n f64p17
theorem f64t15 {ρ : Type} (N : Nat) (i4 : Int) (m1_0 : Int) (m1_1 : Int) (m1_2 : List Int) (K : KT ρ) : f64i N f64c15 f64p15 (f64s3 i4 m1_0 m1_1 m1_2) (joinK (some f64l3) K) =
  spec_l1Sizes.Z15 N i4 m1_0 m1_1 m1_2 (fun i4 m1_0 m1_1 m1_2 => K .nrm (f64s3 i4 m1_0 m1_1 m1_2)) (K (.exit 2) f64s5) (fun t2 => K .ret (f64s6 t2)) :=
  viaSeq (fun k => spec_l1Sizes.Z16 N i4 m1_0 m1_1 m1_2 k (K (.exit 2) f64s5)) (by kernel_rfl) (by kernel_rfl) (f64t16 N i4 m1_0 m1_1 m1_2 (seqK (fun σ => f64i N f64c17 f64p17 σ (joinK (some f64l3) K)) (joinK (some f64l3) K))) (funext fun i4 => funext fun m1_0 => funext fun m1_1 => funext fun m1_2 => f64t17 N i4 m1_0 m1_1 m1_2 K) (by kernel_rfl) (by kernel_rfl)
noncomputable def f64c14 := codeAt (bodyOf Try.f64) [1,1,1,0,1,0]
noncomputable def f64p14 : Plan := .mk none (some f64l3) f64p15 .n
noncomputable abbrev f64w14 {ρ : Type} (N : Nat) (M : Nat) (σ : St) (K : KT ρ) : Option ρ := loopC (fun σ K => f64i N f64c15 f64p15 σ K) f64l3 M σ K
theorem f64t14L {ρ : Type} (N : Nat) (K : KT ρ) : ∀ (M : Nat) (i4 : Int) (m1_0 : Int) (m1_1 : Int) (m1_2 : List Int), f64w14 N M (f64s3 i4 m1_0 m1_1 m1_2) K =
  spec_l1Sizes.Z14L N (K (.exit 2) f64s5) (fun t2 => K .ret (f64s6 t2)) M i4 m1_0 m1_1 m1_2
  | 0, _, _, _, _ => rfl
  | M + 1, i4, m1_0, m1_1, m1_2 => viaRound (fun k => spec_l1Sizes.Z15 N i4 m1_0 m1_1 m1_2 k (K (.exit 2) f64s5) (fun t2 => K .ret (f64s6 t2))) (f64t15 N i4 m1_0 m1_1 m1_2 (seqK (fun σ => f64w14 N M σ K) K)) (funext fun i4 => funext fun m1_0 => funext fun m1_1 => funext fun m1_2 => f64t14L N K M i4 m1_0 m1_1 m1_2) (by kernel_rfl) (by kernel_rfl)
theorem f64t14 {ρ : Type} (N : Nat) (i4 : Int) (m1_0 : Int) (m1_1 : Int) (m1_2 : List Int) (K : KT ρ) : f64i N f64c14 f64p14 (f64s3 i4 m1_0 m1_1 m1_2) (joinK (some f64l5) K) =
  spec_l1Sizes.Z14 N i4 m1_0 m1_1 m1_2 (K (.exit 2) f64s5) (fun t2 => K .ret (f64s6 t2)) :=
  viaLoop (by kernel_rfl) (by kernel_rfl) (σ' := f64s3 i4 m1_0 m1_1 m1_2) (by kernel_rfl) (f64t14L N (joinK (some f64l5) K) N i4 m1_0 m1_1 m1_2) (by kernel_rfl)
noncomputable def f64c13 := codeAt (bodyOf Try.f64) [1,1,1,0,1]
noncomputable def f64p13 : Plan := .mk (some f64l5) none f64p14 .n
theorem f64t13 {ρ : Type} (N : Nat) (i4 : Int) (m1_0 : Int) (m1_1 : Int) (m1_2 : List Int) (K : KT ρ) : f64i N f64c13 f64p13 (f64s3 i4 m1_0 m1_1 m1_2) (joinK (some f64l5) K) =
  spec_l1Sizes.Z13 N i4 m1_0 m1_1 m1_2 (K .nrm f64s5) (fun t2 => K .ret (f64s6 t2)) :=
  viaBlock (by kernel_rfl) (by kernel_rfl) (f64t14 N i4 m1_0 m1_1 m1_2 (blockK 2 (joinK (some f64l5) K))) (by kernel_rfl)
noncomputable def f64c11 := codeAt (bodyOf Try.f64) [1,1,1,0]
noncomputable def f64p11 : Plan := .mk (some f64l3) none .n f64p13
theorem f64t11 {ρ : Type} (N : Nat) (m1_0 : Int) (m1_1 : Int) (m1_2 : List Int) (K : KT ρ) : f64i N f64c11 f64p11 (f64s1 m1_0 m1_1 m1_2) (joinK (some f64l5) K) =
  spec_l1Sizes.Z11 N m1_0 m1_1 m1_2 (K .nrm f64s5) (fun t2 => K .ret (f64s6 t2)) :=
  viaSeq (fun k => spec_l1Sizes.Z12 N m1_0 m1_1 m1_2 k) (by kernel_rfl) (by kernel_rfl) (f64t12 N m1_0 m1_1 m1_2 (seqK (fun σ => f64i N f64c13 f64p13 σ (joinK (some f64l5) K)) (joinK (some f64l5) K))) (funext fun i4 => funext fun m1_0 => funext fun m1_1 => funext fun m1_2 => f64t13 N i4 m1_0 m1_1 m1_2 K) (by kernel_rfl) (by kernel_rfl)
noncomputable def f64c25 := codeAt (bodyOf Try.f64) [1,1,1,1]
theorem f64t25 {ρ : Type} (N : Nat)  (K : KT ρ) : f64i N f64c25 .n f64s5 (joinK (some f64lE) K) =
  spec_l1Sizes.Z25 N (fun t2 => K .ret (f64s6 t2)) := by kernel_rfl
noncomputable def f64c10 := codeAt (bodyOf Try.f64) [1,1,1]
noncomputable def f64p10 : Plan := .mk (some f64l5) none f64p11 .n
theorem f64t10 {ρ : Type} (N : Nat) (m1_0 : Int) (m1_1 : Int) (m1_2 : List Int) (K : KT ρ) : f64i N f64c10 f64p10 (f64s1 m1_0 m1_1 m1_2) (joinK (some f64lE) K) =
  spec_l1Sizes.Z10 N m1_0 m1_1 m1_2 (fun t2 => K .ret (f64s6 t2)) :=
  viaSeq (fun k => spec_l1Sizes.Z11 N m1_0 m1_1 m1_2 k (fun t2 => K .ret (f64s6 t2))) (by kernel_rfl) (by kernel_rfl) (f64t11 N m1_0 m1_1 m1_2 (seqK (fun σ => f64i N f64c25 .n σ (joinK (some f64lE) K)) (joinK (some f64lE) K))) (f64t25 N K) (by kernel_rfl) (by kernel_rfl)
noncomputable def f64c4 := codeAt (bodyOf Try.f64) [1,1]
noncomputable def f64p4 : Plan := .mk (some f64l1) none f64p5 f64p10
theorem f64t4 {ρ : Type} (N : Nat) (m1_0 : Int) (m1_1 : Int) (m1_2 : List Int) (K : KT ρ) : f64i N f64c4 f64p4 (f64s1 m1_0 m1_1 m1_2) (joinK (some f64lE) K) =
  spec_l1Sizes.Z4 N m1_0 m1_1 m1_2 (fun t2 => K .ret (f64s6 t2)) :=
  viaSeq (fun k => spec_l1Sizes.Z5 N m1_0 m1_1 m1_2 k (fun t2 => K .ret (f64s6 t2))) (by kernel_rfl) (by kernel_rfl) (f64t5 N m1_0 m1_1 m1_2 (seqK (fun σ => f64i N f64c10 f64p10 σ (joinK (some f64lE) K)) (joinK (some f64lE) K))) (funext fun m1_0 => funext fun m1_1 => funext fun m1_2 => f64t10 N m1_0 m1_1 m1_2 K) (by kernel_rfl) (by kernel_rfl)
noncomputable def f64c2 := codeAt (bodyOf Try.f64) [1]
noncomputable def f64p2 : Plan := .mk (some f64l1) none .n f64p4
theorem f64t2 {ρ : Type} (N : Nat) (m1_0 : Int) (m1_1 : Int) (m1_2 : List Int) (K : KT ρ) : f64i N f64c2 f64p2 (f64s1 m1_0 m1_1 m1_2) (joinK (some f64lE) K) =
  spec_l1Sizes.Z2 N m1_0 m1_1 m1_2 (fun t2 => K .ret (f64s6 t2)) :=
  viaSeq (fun k => spec_l1Sizes.Z3 N m1_0 m1_1 m1_2 k (fun t2 => K .ret (f64s6 t2))) (by kernel_rfl) (by kernel_rfl) (f64t3 N m1_0 m1_1 m1_2 (seqK (fun σ => f64i N f64c4 f64p4 σ (joinK (some f64lE) K)) (joinK (some f64lE) K))) (funext fun m1_0 => funext fun m1_1 => funext fun m1_2 => f64t4 N m1_0 m1_1 m1_2 K) (by kernel_rfl) (by kernel_rfl)
noncomputable def f64c0 := codeAt (bodyOf Try.f64) []
noncomputable def f64p0 : Plan := .mk (some f64l1) none .n f64p2
theorem f64t0 {ρ : Type} (N : Nat) (m0 : Int × Int × List Int) (K : KT ρ) : f64i N f64c0 f64p0 (f64s0 m0) (joinK (some f64lE) K) =
  spec_l1Sizes.Z0 N m0 (fun t2 => K .ret (f64s6 t2)) :=
  viaSeq (fun k => spec_l1Sizes.Z1 N m0 k) (by kernel_rfl) (by kernel_rfl) (f64t1 N m0 (seqK (fun σ => f64i N f64c2 f64p2 σ (joinK (some f64lE) K)) (joinK (some f64lE) K))) (funext fun m1_0 => funext fun m1_1 => funext fun m1_2 => f64t2 N m1_0 m1_1 m1_2 K) (by kernel_rfl) (by kernel_rfl)
theorem f64m (N : Nat) (m0 : Int × Int × List Int) : f64i N f64c0 f64p0 (f64s0 m0) (joinK (some f64lE) (finK tab f64sig Try.f64.results.toList)) = spec_l1Sizes.Z0 N m0 (fun t2 => some ((), (t2, ()))) :=
  (f64t0 N m0 (finK tab f64sig Try.f64.results.toList)).trans (by kernel_rfl)
theorem f64ok (h : spec_l1Sizes.Spec) : EntryOk Try.prog 64 e64 :=
  entry_of_code (sig := f64sig) (c := f64c0) (pl := f64p0) (je := (some f64lE)) (B := f64B) Try.func64 (by kernel_rfl) (by kernel_rfl) (by kernel_rfl) tabOk f64GOk (by kernel_rfl) (by kernel_rfl) (by kernel_rfl) (by kernel_rfl) fun X hb hp => by
    obtain ⟨m0, _⟩ := X
    obtain ⟨N, h⟩ := h m0 hb.1
    exact ⟨N, (f64m N m0).trans (h N (Nat.le_refl N))⟩
theorem e64ok : EntryOk Try.prog 64 e64 := f64ok spec_l1Sizes.ok
end Go.Fw
set_option linter.unusedVariables false
set_option linter.unusedSimpArgs false
set_option maxRecDepth 100000
namespace Go.Fw
open Go.Proofs
/-! ### loop.example/g03115/spec.l1Has -/
noncomputable def f92sig : Sig := ⟨[⟨.sl 3 (.int .i64), false, false⟩, ⟨.int .i64, false, false⟩], [⟨.bool, false, false⟩]⟩
noncomputable def e92 : Entry := ⟨f92sig, none, fun X => ((), ((spec_l1Has.g X.1 X.2.1), ()))⟩
noncomputable def f92G : Nat → Option Entry := (fun _ => none)
theorem f92GOk : GOk Try.prog f92G := GOk.nil
noncomputable def f92lE : Clean := ⟨[], [], [], [], []⟩
noncomputable def f92s0 (l0 : List Int) (n1 : Int) : St := initSt f92sig.ps (l0, (n1, ()))
noncomputable def f92s1 (l0 : List Int) (n1 : Int) : St := stOf [(0, .c (.sn 3 (.int .i64) l0 none)), (1, .c (.int .i64 n1))] [] []
noncomputable def f92l1 : Clean := ⟨[0, 1], [], [], [], []⟩
noncomputable def f92s2 (l0 : List Int) (n1 : Int) (i5 : Int) : St := stOf [(0, .c (.sn 3 (.int .i64) l0 none)), (1, .c (.int .i64 n1)), (5, .c (.int .i64 i5))] [] []
noncomputable def f92l2 : Clean := ⟨[0, 1, 5], [], [], [], []⟩
noncomputable def f92s3  : St := stOf [] [] []
noncomputable def f92l3 : Clean := ⟨[], [], [], [], []⟩
noncomputable def f92s4 (t4 : Bool) : St := stOf [(4, .c (.bool t4))] [] []
noncomputable def f92l4 : Clean := ⟨[4], [], [], [], []⟩
noncomputable def f92B : Nat → Option Clean := lookL [(0, f92l3), (1000000, f92l4)]
noncomputable abbrev f92i {ρ : Type} (N : Nat) (c : Code) (p : Plan) (σ : St) (K : KT ρ) : Option ρ := iCode f92G tab f92B N c p σ K
noncomputable def f92c1 := codeAt (bodyOf Try.f92) [0]
theorem f92t1 {ρ : Type} (N : Nat) (l0 : List Int) (n1 : Int) (K : KT ρ) : f92i N f92c1 .n (f92s0 l0 n1) (joinK (some f92l1) K) =
  spec_l1Has.Z1 N l0 n1 (fun l0 n1 => K .nrm (f92s1 l0 n1)) := by kernel_rfl
noncomputable def f92c4 := codeAt (bodyOf Try.f92) [1,0,0]
theorem f92t4 {ρ : Type} (N : Nat) (l0 : List Int) (n1 : Int) (K : KT ρ) : f92i N f92c4 .n (f92s1 l0 n1) (joinK (some f92l2) K) =
  spec_l1Has.Z4 N l0 n1 (fun l0 n1 i5 => K .nrm (f92s2 l0 n1 i5)) := by kernel_rfl
noncomputable def f92c7 := codeAt (bodyOf Try.f92) [1,0,1,0,0]
theorem f92t7 {ρ : Type} (N : Nat) (l0 : List Int) (n1 : Int) (i5 : Int) (K : KT ρ) : f92i N f92c7 .n (f92s2 l0 n1 i5) (joinK (some f92l2) K) =
  spec_l1Has.Z7 N l0 n1 i5 (fun l0 n1 i5 => K .nrm (f92s2 l0 n1 i5)) (K (.exit 0) f92s3) (fun t4 => K .ret (f92s4 t4)) := by kernel_rfl
noncomputable def f92c6 := codeAt (bodyOf Try.f92) [1,0,1,0]
noncomputable def f92p6 : Plan := .mk none (some f92l2) .n .n
noncomputable abbrev f92w6 {ρ : Type} (N : Nat) (M : Nat) (σ : St) (K : KT ρ) : Option ρ := loopC (fun σ K => f92i N f92c7 .n σ K) f92l2 M σ K
theorem f92t6L {ρ : Type} (N : Nat) (K : KT ρ) : ∀ (M : Nat) (l0 : List Int) (n1 : Int) (i5 : Int), f92w6 N M (f92s2 l0 n1 i5) K =
  spec_l1Has.Z6L N (K (.exit 0) f92s3) (fun t4 => K .ret (f92s4 t4)) M l0 n1 i5
  | 0, _, _, _ => rfl
  | M + 1, l0, n1, i5 => viaRound (fun k => spec_l1Has.Z7 N l0 n1 i5 k (K (.exit 0) f92s3) (fun t4 => K .ret (f92s4 t4))) (f92t7 N l0 n1 i5 (seqK (fun σ => f92w6 N M σ K) K)) (funext fun l0 => funext fun n1 => funext fun i5 => f92t6L N K M l0 n1 i5) (by kernel_rfl) (by kernel_rfl)
theorem f92t6 {ρ : Type} (N : Nat) (l0 : List Int) (n1 : Int) (i5 : Int) (K : KT ρ) : f92i N f92c6 f92p6 (f92s2 l0 n1 i5) (joinK (some f92l3) K) =
  spec_l1Has.Z6 N l0 n1 i5 (K (.exit 0) f92s3) (fun t4 => K .ret (f92s4 t4)) :=
  viaLoop (by kernel_rfl) (by kernel_rfl) (σ' := f92s2 l0 n1 i5) (by kernel_rfl) (f92t6L N (joinK (some f92l3) K) N l0 n1 i5) (by kernel_rfl)
noncomputable def f92c5 := codeAt (bodyOf Try.f92) [1,0,1]
noncomputable def f92p5 : Plan := .mk (some f92l3) none f92p6 .n
theorem f92t5 {ρ : Type} (N : Nat) (l0 : List Int) (n1 : Int) (i5 : Int) (K : KT ρ) : f92i N f92c5 f92p5 (f92s2 l0 n1 i5) (joinK (some f92l3) K) =
  spec_l1Has.Z5 N l0 n1 i5 (K .nrm f92s3) (fun t4 => K .ret (f92s4 t4)) :=
  viaBlock (by kernel_rfl) (by kernel_rfl) (f92t6 N l0 n1 i5 (blockK 0 (joinK (some f92l3) K))) (by kernel_rfl)
noncomputable def f92c3 := codeAt (bodyOf Try.f92) [1,0]
noncomputable def f92p3 : Plan := .mk (some f92l2) none .n f92p5
theorem f92t3 {ρ : Type} (N : Nat) (l0 : List Int) (n1 : Int) (K : KT ρ) : f92i N f92c3 f92p3 (f92s1 l0 n1) (joinK (some f92l3) K) =
  spec_l1Has.Z3 N l0 n1 (K .nrm f92s3) (fun t4 => K .ret (f92s4 t4)) :=
  viaSeq (fun k => spec_l1Has.Z4 N l0 n1 k) (by kernel_rfl) (by kernel_rfl) (f92t4 N l0 n1 (seqK (fun σ => f92i N f92c5 f92p5 σ (joinK (some f92l3) K)) (joinK (some f92l3) K))) (funext fun l0 => funext fun n1 => funext fun i5 => f92t5 N l0 n1 i5 K) (by kernel_rfl) (by kernel_rfl)
noncomputable def f92c8 := codeAt (bodyOf Try.f92) [1,1]
theorem f92t8 {ρ : Type} (N : Nat)  (K : KT ρ) : f92i N f92c8 .n f92s3 (joinK (some f92lE) K) =
  spec_l1Has.Z8 N (fun t4 => K .ret (f92s4 t4)) := by kernel_rfl
noncomputable def f92c2 := codeAt (bodyOf Try.f92) [1]
noncomputable def f92p2 : Plan := .mk (some f92l3) none f92p3 .n
theorem f92t2 {ρ : Type} (N : Nat) (l0 : List Int) (n1 : Int) (K : KT ρ) : f92i N f92c2 f92p2 (f92s1 l0 n1) (joinK (some f92lE) K) =
  spec_l1Has.Z2 N l0 n1 (fun t4 => K .ret (f92s4 t4)) :=
  viaSeq (fun k => spec_l1Has.Z3 N l0 n1 k (fun t4 => K .ret (f92s4 t4))) (by kernel_rfl) (by kernel_rfl) (f92t3 N l0 n1 (seqK (fun σ => f92i N f92c8 .n σ (joinK (some f92lE) K)) (joinK (some f92lE) K))) (f92t8 N K) (by kernel_rfl) (by kernel_rfl)
noncomputable def f92c0 := codeAt (bodyOf Try.f92) []
noncomputable def f92p0 : Plan := .mk (some f92l1) none .n f92p2
theorem f92t0 {ρ : Type} (N : Nat) (l0 : List Int) (n1 : Int) (K : KT ρ) : f92i N f92c0 f92p0 (f92s0 l0 n1) (joinK (some f92lE) K) =
  spec_l1Has.Z0 N l0 n1 (fun t4 => K .ret (f92s4 t4)) :=
  viaSeq (fun k => spec_l1Has.Z1 N l0 n1 k) (by kernel_rfl) (by kernel_rfl) (f92t1 N l0 n1 (seqK (fun σ => f92i N f92c2 f92p2 σ (joinK (some f92lE) K)) (joinK (some f92lE) K))) (funext fun l0 => funext fun n1 => f92t2 N l0 n1 K) (by kernel_rfl) (by kernel_rfl)
theorem f92m (N : Nat) (l0 : List Int) (n1 : Int) : f92i N f92c0 f92p0 (f92s0 l0 n1) (joinK (some f92lE) (finK tab f92sig Try.f92.results.toList)) = spec_l1Has.Z0 N l0 n1 (fun t4 => some ((), (t4, ()))) :=
  (f92t0 N l0 n1 (finK tab f92sig Try.f92.results.toList)).trans (by kernel_rfl)
theorem f92ok (h : spec_l1Has.Spec) : EntryOk Try.prog 92 e92 :=
  entry_of_code (sig := f92sig) (c := f92c0) (pl := f92p0) (je := (some f92lE)) (B := f92B) Try.func92 (by kernel_rfl) (by kernel_rfl) (by kernel_rfl) tabOk f92GOk (by kernel_rfl) (by kernel_rfl) (by kernel_rfl) (by kernel_rfl) fun X hb hp => by
    obtain ⟨l0, n1, _⟩ := X
    obtain ⟨N, h⟩ := h l0 n1 hb.1
    exact ⟨N, (f92m N l0 n1).trans (h N (Nat.le_refl N))⟩
theorem e92ok : EntryOk Try.prog 92 e92 := f92ok spec_l1Has.ok
end Go.Fw
set_option linter.unusedVariables false
set_option linter.unusedSimpArgs false
set_option maxRecDepth 100000
namespace Go.Fw
open Go.Proofs
/-! ### loop.example/g03115/spec.l1Piece -/
noncomputable def f85sig : Sig := ⟨[⟨.pair (.int .i64) (.pair (.int .i64) (.sl 3 (.int .i64))), true, false⟩, ⟨.int .i64, false, false⟩], [⟨.sl 3 (.int .i64), false, false⟩, ⟨.sl 3 (.int .i64), false, false⟩]⟩
noncomputable def e85 : Entry := ⟨f85sig, (some fun X => spec_l1Piece.P X.1 X.2.1), fun X => ((), ((spec_l1Piece.g X.1 X.2.1).1, ((spec_l1Piece.g X.1 X.2.1).2, ())))⟩
noncomputable def f85G : Nat → Option Entry := addG (addG (fun _ => none) 68 e68) 92 e92
theorem f85GOk : GOk Try.prog f85G := ((GOk.nil).add e68ok (by kernel_rfl)).add e92ok (by kernel_rfl)
noncomputable def f85lE : Clean := ⟨[], [], [], [], []⟩
noncomputable def f85s0 (m0 : Int × Int × List Int) (first1 : Int) : St := initSt f85sig.ps (m0, (first1, ()))
noncomputable def f85s1 (first1 : Int) (m2_0 : Int) (m2_1 : Int) (m2_2 : List Int) : St := stOf [(1, .c (.int .i64 first1)), (2, .c (.box 2 0))] [(2, (47, [.int .i64 m2_0, .int .i64 m2_1, .sn 3 (.int .i64) m2_2 none]))] []
noncomputable def f85l1 : Clean := ⟨[1, 2], [2], [], [], []⟩
noncomputable def f85s2 (list6 : List Int) (first1 : Int) (m2_0 : Int) (m2_1 : Int) (m2_2 : List Int) : St := stOf [(1, .c (.int .i64 first1)), (2, .c (.box 2 0)), (6, .c (.own 1000384))] [(2, (47, [.int .i64 m2_0, .int .i64 m2_1, .sn 3 (.int .i64) m2_2 none]))] [(1000384, (⟨3, .int .i64, list6, true, false⟩ : Row))]
noncomputable def f85l2 : Clean := ⟨[1, 2, 6], [2], [], [], [(⟨false, 6, 0⟩, 1000384)]⟩
noncomputable def f85s3 (list6 : List Int) (from7 : List Int) (m2_0 : Int) (m2_1 : Int) (m2_2 : List Int) : St := stOf [(2, .c (.box 2 0)), (6, .c (.own 1000384)), (7, .c (.own 1000448))] [(2, (47, [.int .i64 m2_0, .int .i64 m2_1, .sn 3 (.int .i64) m2_2 none]))] [(1000384, (⟨3, .int .i64, list6, true, false⟩ : Row)), (1000448, (⟨3, .int .i64, from7, true, false⟩ : Row))]
noncomputable def f85l3 : Clean := ⟨[2, 6, 7], [2], [], [], [(⟨false, 6, 0⟩, 1000384), (⟨false, 7, 0⟩, 1000448)]⟩
noncomputable def f85s4 (list6 : List Int) (from7 : List Int) (at8 : Int) (m2_0 : Int) (m2_1 : Int) (m2_2 : List Int) : St := stOf [(2, .c (.box 2 0)), (6, .c (.own 1000384)), (7, .c (.own 1000448)), (8, .c (.int .i64 at8))] [(2, (47, [.int .i64 m2_0, .int .i64 m2_1, .sn 3 (.int .i64) m2_2 none]))] [(1000384, (⟨3, .int .i64, list6, true, false⟩ : Row)), (1000448, (⟨3, .int .i64, from7, true, false⟩ : Row))]
noncomputable def f85l4 : Clean := ⟨[2, 6, 7, 8], [2], [], [], [(⟨false, 6, 0⟩, 1000384), (⟨false, 7, 0⟩, 1000448)]⟩
noncomputable def f85s5 (list6 : List Int) (from7 : List Int) (at8 : Int) (j9 : Int) (m2_0 : Int) (m2_1 : Int) (m2_2 : List Int) : St := stOf [(2, .c (.box 2 0)), (6, .c (.own 1000384)), (7, .c (.own 1000448)), (8, .c (.int .i64 at8)), (9, .c (.int .i64 j9))] [(2, (47, [.int .i64 m2_0, .int .i64 m2_1, .sn 3 (.int .i64) m2_2 none]))] [(1000384, (⟨3, .int .i64, list6, true, false⟩ : Row)), (1000448, (⟨3, .int .i64, from7, true, false⟩ : Row))]
noncomputable def f85l5 : Clean := ⟨[2, 6, 7, 8, 9], [2], [], [], [(⟨false, 6, 0⟩, 1000384), (⟨false, 7, 0⟩, 1000448)]⟩
noncomputable def f85s6 (list6 : List Int) (from7 : List Int) : St := stOf [(6, .c (.own 1000384)), (7, .c (.own 1000448))] [] [(1000384, (⟨3, .int .i64, list6, true, false⟩ : Row)), (1000448, (⟨3, .int .i64, from7, true, false⟩ : Row))]
noncomputable def f85l6 : Clean := ⟨[6, 7], [], [], [], [(⟨false, 6, 0⟩, 1000384), (⟨false, 7, 0⟩, 1000448)]⟩
noncomputable def f85s7 (t4 : List Int) (t5 : List Int) : St := stOf [(4, .c (.own 1000256)), (5, .c (.own 1000320))] [] [(1000256, (⟨3, .int .i64, t4, true, false⟩ : Row)), (1000320, (⟨3, .int .i64, t5, true, false⟩ : Row))]
noncomputable def f85l7 : Clean := ⟨[4, 5], [], [], [], [(⟨false, 4, 0⟩, 1000256), (⟨false, 5, 0⟩, 1000320)]⟩
noncomputable def f85B : Nat → Option Clean := lookL [(2, f85l4), (1, f85l4), (0, f85l6), (1000000, f85l7)]
noncomputable abbrev f85i {ρ : Type} (N : Nat) (c : Code) (p : Plan) (σ : St) (K : KT ρ) : Option ρ := iCode f85G tab f85B N c p σ K
noncomputable def f85c1 := codeAt (bodyOf Try.f85) [0]
theorem f85t1 {ρ : Type} (N : Nat) (m0 : Int × Int × List Int) (first1 : Int) (K : KT ρ) : f85i N f85c1 .n (f85s0 m0 first1) (joinK (some f85l1) K) =
  spec_l1Piece.Z1 N m0 first1 (fun first1 m2_0 m2_1 m2_2 => K .nrm (f85s1 first1 m2_0 m2_1 m2_2)) := by kernel_rfl
noncomputable def f85c3 := codeAt (bodyOf Try.f85) [1,0]
theorem f85t3 {ρ : Type} (N : Nat) (first1 : Int) (m2_0 : Int) (m2_1 : Int) (m2_2 : List Int) (K : KT ρ) : f85i N f85c3 .n (f85s1 first1 m2_0 m2_1 m2_2) (joinK (some f85l2) K) =
  spec_l1Piece.Z3 N first1 m2_0 m2_1 m2_2 (fun list6 first1 m2_0 m2_1 m2_2 => K .nrm (f85s2 list6 first1 m2_0 m2_1 m2_2)) := by kernel_rfl
noncomputable def f85c5 := codeAt (bodyOf Try.f85) [1,1,0]
theorem f85t5 {ρ : Type} (N : Nat) (list6 : List Int) (first1 : Int) (m2_0 : Int) (m2_1 : Int) (m2_2 : List Int) (K : KT ρ) : f85i N f85c5 .n (f85s2 list6 first1 m2_0 m2_1 m2_2) (joinK (some f85l3) K) =
  spec_l1Piece.Z5 N list6 first1 m2_0 m2_1 m2_2 (fun list6 from7 m2_0 m2_1 m2_2 => K .nrm (f85s3 list6 from7 m2_0 m2_1 m2_2)) := by kernel_rfl
noncomputable def f85c8 := codeAt (bodyOf Try.f85) [1,1,1,0,0]
theorem f85t8 {ρ : Type} (N : Nat) (list6 : List Int) (from7 : List Int) (m2_0 : Int) (m2_1 : Int) (m2_2 : List Int) (K : KT ρ) : f85i N f85c8 .n (f85s3 list6 from7 m2_0 m2_1 m2_2) (joinK (some f85l4) K) =
  spec_l1Piece.Z8 N list6 from7 m2_0 m2_1 m2_2 (fun list6 from7 at8 m2_0 m2_1 m2_2 => K .nrm (f85s4 list6 from7 at8 m2_0 m2_1 m2_2)) := by kernel_rfl
noncomputable def f85c12 := codeAt (bodyOf Try.f85) [1,1,1,0,1,0,0,0]
theorem f85t12 {ρ : Type} (N : Nat) (list6 : List Int) (from7 : List Int) (at8 : Int) (m2_0 : Int) (m2_1 : Int) (m2_2 : List Int) (K : KT ρ) : f85i N f85c12 .n (f85s4 list6 from7 at8 m2_0 m2_1 m2_2) (joinK (some f85l4) K) =
  spec_l1Piece.Z12 N list6 from7 at8 m2_0 m2_1 m2_2 (fun list6 from7 at8 m2_0 m2_1 m2_2 => K .nrm (f85s4 list6 from7 at8 m2_0 m2_1 m2_2)) (fun list6 from7 => K (.exit 0) (f85s6 list6 from7)) := by kernel_rfl
noncomputable def f85c16 := codeAt (bodyOf Try.f85) [1,1,1,0,1,0,0,1,0,0,0]
theorem f85t16 {ρ : Type} (N : Nat) (list6 : List Int) (from7 : List Int) (at8 : Int) (m2_0 : Int) (m2_1 : Int) (m2_2 : List Int) (K : KT ρ) : f85i N f85c16 .n (f85s4 list6 from7 at8 m2_0 m2_1 m2_2) (joinK (some f85l5) K) =
  spec_l1Piece.Z16 N list6 from7 at8 m2_0 m2_1 m2_2 (fun list6 from7 at8 j9 m2_0 m2_1 m2_2 => K .nrm (f85s5 list6 from7 at8 j9 m2_0 m2_1 m2_2)) := by kernel_rfl
noncomputable def f85c19 := codeAt (bodyOf Try.f85) [1,1,1,0,1,0,0,1,0,0,1,0,0]
theorem f85t19 {ρ : Type} (N : Nat) (list6 : List Int) (from7 : List Int) (at8 : Int) (j9 : Int) (m2_0 : Int) (m2_1 : Int) (m2_2 : List Int) (K : KT ρ) : f85i N f85c19 .n (f85s5 list6 from7 at8 j9 m2_0 m2_1 m2_2) (joinK (some f85l5) K) =
  spec_l1Piece.Z19 N list6 from7 at8 j9 m2_0 m2_1 m2_2 (fun list6 from7 at8 j9 m2_0 m2_1 m2_2 => K .nrm (f85s5 list6 from7 at8 j9 m2_0 m2_1 m2_2)) (fun list6 from7 at8 m2_0 m2_1 m2_2 => K (.exit 2) (f85s4 list6 from7 at8 m2_0 m2_1 m2_2)) := by kernel_rfl
noncomputable def f85c18 := codeAt (bodyOf Try.f85) [1,1,1,0,1,0,0,1,0,0,1,0]
noncomputable def f85p18 : Plan := .mk none (some f85l5) .n .n
noncomputable abbrev f85w18 {ρ : Type} (N : Nat) (M : Nat) (σ : St) (K : KT ρ) : Option ρ := loopC (fun σ K => f85i N f85c19 .n σ K) f85l5 M σ K
theorem f85t18L {ρ : Type} (N : Nat) (K : KT ρ) : ∀ (M : Nat) (list6 : List Int) (from7 : List Int) (at8 : Int) (j9 : Int) (m2_0 : Int) (m2_1 : Int) (m2_2 : List Int), f85w18 N M (f85s5 list6 from7 at8 j9 m2_0 m2_1 m2_2) K =
  spec_l1Piece.Z18L N (fun list6 from7 at8 m2_0 m2_1 m2_2 => K (.exit 2) (f85s4 list6 from7 at8 m2_0 m2_1 m2_2)) M list6 from7 at8 j9 m2_0 m2_1 m2_2
  | 0, _, _, _, _, _, _, _ => rfl
  | M + 1, list6, from7, at8, j9, m2_0, m2_1, m2_2 => viaRound (fun k => spec_l1Piece.Z19 N list6 from7 at8 j9 m2_0 m2_1 m2_2 k (fun list6 from7 at8 m2_0 m2_1 m2_2 => K (.exit 2) (f85s4 list6 from7 at8 m2_0 m2_1 m2_2))) (f85t19 N list6 from7 at8 j9 m2_0 m2_1 m2_2 (seqK (fun σ => f85w18 N M σ K) K)) (funext fun list6 => funext fun from7 => funext fun at8 => funext fun j9 => funext fun m2_0 => funext fun m2_1 => funext fun m2_2 => f85t18L N K M list6 from7 at8 j9 m2_0 m2_1 m2_2) (by kernel_rfl) (by kernel_rfl)
theorem f85t18 {ρ : Type} (N : Nat) (list6 : List Int) (from7 : List Int) (at8 : Int) (j9 : Int) (m2_0 : Int) (m2_1 : Int) (m2_2 : List Int) (K : KT ρ) : f85i N f85c18 f85p18 (f85s5 list6 from7 at8 j9 m2_0 m2_1 m2_2) (joinK (some f85l4) K) =
  spec_l1Piece.Z18 N list6 from7 at8 j9 m2_0 m2_1 m2_2 (fun list6 from7 at8 m2_0 m2_1 m2_2 => K (.exit 2) (f85s4 list6 from7 at8 m2_0 m2_1 m2_2)) :=
  viaLoop (by kernel_rfl) (by kernel_rfl) (σ' := f85s5 list6 from7 at8 j9 m2_0 m2_1 m2_2) (by kernel_rfl) (f85t18L N (joinK (some f85l4) K) N list6 from7 at8 j9 m2_0 m2_1 m2_2) (by kernel_rfl)
noncomputable def f85c17 := codeAt (bodyOf Try.f85) [1,1,1,0,1,0,0,1,0,0,1]
noncomputable def f85p17 : Plan := .mk (some f85l4) none f85p18 .n
theorem f85t17 {ρ : Type} (N : Nat) (list6 : List Int) (from7 : List Int) (at8 : Int) (j9 : Int) (m2_0 : Int) (m2_1 : Int) (m2_2 : List Int) (K : KT ρ) : f85i N f85c17 f85p17 (f85s5 list6 from7 at8 j9 m2_0 m2_1 m2_2) (joinK (some f85l4) K) =
  spec_l1Piece.Z17 N list6 from7 at8 j9 m2_0 m2_1 m2_2 (fun list6 from7 at8 m2_0 m2_1 m2_2 => K .nrm (f85s4 list6 from7 at8 m2_0 m2_1 m2_2)) :=
  viaBlock (by kernel_rfl) (by kernel_rfl) (f85t18 N list6 from7 at8 j9 m2_0 m2_1 m2_2 (blockK 2 (joinK (some f85l4) K))) (by kernel_rfl)
noncomputable def f85c15 := codeAt (bodyOf Try.f85) [1,1,1,0,1,0,0,1,0,0]
noncomputable def f85p15 : Plan := .mk (some f85l5) none .n f85p17
theorem f85t15 {ρ : Type} (N : Nat) (list6 : List Int) (from7 : List Int) (at8 : Int) (m2_0 : Int) (m2_1 : Int) (m2_2 : List Int) (K : KT ρ) : f85i N f85c15 f85p15 (f85s4 list6 from7 at8 m2_0 m2_1 m2_2) (joinK (some f85l4) K) =
  spec_l1Piece.Z15 N list6 from7 at8 m2_0 m2_1 m2_2 (fun list6 from7 at8 m2_0 m2_1 m2_2 => K .nrm (f85s4 list6 from7 at8 m2_0 m2_1 m2_2)) :=
  viaSeq (fun k => spec_l1Piece.Z16 N list6 from7 at8 m2_0 m2_1 m2_2 k) (by kernel_rfl) (by kernel_rfl) (f85t16 N list6 from7 at8 m2_0 m2_1 m2_2 (seqK (fun σ => f85i N f85c17 f85p17 σ (joinK (some f85l4) K)) (joinK (some f85l4) K))) (funext fun list6 => funext fun from7 => funext fun at8 => funext fun j9 => funext fun m2_0 => funext fun m2_1 => funext fun m2_2 => f85t17 N list6 from7 at8 j9 m2_0 m2_1 m2_2 K) (by kernel_rfl) (by kernel_rfl)
noncomputable def f85c14 := codeAt (bodyOf Try.f85) [1,1,1,0,1,0,0,1,0]
noncomputable def f85p14 : Plan := .mk (some f85l4) none f85p15 .n
theorem f85t14 {ρ : Type} (N : Nat) (list6 : List Int) (from7 : List Int) (at8 : Int) (m2_0 : Int) (m2_1 : Int) (m2_2 : List Int) (K : KT ρ) : f85i N f85c14 f85p14 (f85s4 list6 from7 at8 m2_0 m2_1 m2_2) (joinK (some f85l4) K) =
  spec_l1Piece.Z14 N list6 from7 at8 m2_0 m2_1 m2_2 (fun list6 from7 at8 m2_0 m2_1 m2_2 => K .nrm (f85s4 list6 from7 at8 m2_0 m2_1 m2_2)) :=
  viaBlock (by kernel_rfl) (by kernel_rfl) (f85t15 N list6 from7 at8 m2_0 m2_1 m2_2 (blockK 1 (joinK (some f85l4) K))) (by kernel_rfl)
noncomputable def f85c20 := codeAt (bodyOf Try.f85) [1,1,1,0,1,0,0,1,1]
theorem f85t20 {ρ : Type} (N : Nat) (list6 : List Int) (from7 : List Int) (at8 : Int) (m2_0 : Int) (m2_1 : Int) (m2_2 : List Int) (K : KT ρ) : f85i N f85c20 .n (f85s4 list6 from7 at8 m2_0 m2_1 m2_2) (joinK (some f85l4) K) =
  spec_l1Piece.Z20 N list6 from7 at8 m2_0 m2_1 m2_2 (fun list6 from7 at8 m2_0 m2_1 m2_2 => K .nrm (f85s4 list6 from7 at8 m2_0 m2_1 m2_2)) := by kernel_rfl
noncomputable def f85c13 := codeAt (bodyOf Try.f85) [1,1,1,0,1,0,0,1]
noncomputable def f85p13 : Plan := .mk (some f85l4) none f85p14 .n
theorem f85t13 {ρ : Type} (N : Nat) (list6 : List Int) (from7 : List Int) (at8 : Int) (m2_0 : Int) (m2_1 : Int) (m2_2 : List Int) (K : KT ρ) : f85i N f85c13 f85p13 (f85s4 list6 from7 at8 m2_0 m2_1 m2_2) (joinK (some f85l4) K) =
  spec_l1Piece.Z13 N list6 from7 at8 m2_0 m2_1 m2_2 (fun list6 from7 at8 m2_0 m2_1 m2_2 => K .nrm (f85s4 list6 from7 at8 m2_0 m2_1 m2_2)) :=
  viaSeq (fun k => spec_l1Piece.Z14 N list6 from7 at8 m2_0 m2_1 m2_2 k) (by kernel_rfl) (by kernel_rfl) (f85t14 N list6 from7 at8 m2_0 m2_1 m2_2 (seqK (fun σ => f85i N f85c20 .n σ (joinK (some f85l4) K)) (joinK (some f85l4) K))) (funext fun list6 => funext fun from7 => funext fun at8 => funext fun m2_0 => funext fun m2_1 => funext fun m2_2 => f85t20 N list6 from7 at8 m2_0 m2_1 m2_2 K) (by kernel_rfl) (by kernel_rfl)
noncomputable def f85c11 := codeAt (bodyOf Try.f85) [1,1,1,0,1,0,0]
noncomputable def f85p11 : Plan := .mk (some f85l4) none .n f85p13
theorem f85t11 {ρ : Type} (N : Nat) (list6 : List Int) (from7 : List Int) (at8 : Int) (m2_0 : Int) (m2_1 : Int) (m2_2 : List Int) (K : KT ρ) : f85i N f85c11 f85p11 (f85s4 list6 from7 at8 m2_0 m2_1 m2_2) (joinK (some f85l4) K) =
  spec_l1Piece.Z11 N list6 from7 at8 m2_0 m2_1 m2_2 (fun list6 from7 at8 m2_0 m2_1 m2_2 => K .nrm (f85s4 list6 from7 at8 m2_0 m2_1 m2_2)) (fun list6 from7 => K (.exit 0) (f85s6 list6 from7)) :=
  viaSeq (fun k => spec_l1Piece.Z12 N list6 from7 at8 m2_0 m2_1 m2_2 k (fun list6 from7 => K (.exit 0) (f85s6 list6 from7))) (by kernel_rfl) (by kernel_rfl) (f85t12 N list6 from7 at8 m2_0 m2_1 m2_2 (seqK (fun σ => f85i N f85c13 f85p13 σ (joinK (some f85l4) K)) (joinK (some f85l4) K))) (funext fun list6 => funext fun from7 => funext fun at8 => funext fun m2_0 => funext fun m2_1 => funext fun m2_2 => f85t13 N list6 from7 at8 m2_0 m2_1 m2_2 K) (by kernel_rfl) (by kernel_rfl)
noncomputable def f85c10 := codeAt (bodyOf Try.f85) [1,1,1,0,1,0]
noncomputable def f85p10 : Plan := .mk none (some f85l4) f85p11 .n
noncomputable abbrev f85w10 {ρ : Type} (N : Nat) (M : Nat) (σ : St) (K : KT ρ) : Option ρ := loopC (fun σ K => f85i N f85c11 f85p11 σ K) f85l4 M σ K
theorem f85t10L {ρ : Type} (N : Nat) (K : KT ρ) : ∀ (M : Nat) (list6 : List Int) (from7 : List Int) (at8 : Int) (m2_0 : Int) (m2_1 : Int) (m2_2 : List Int), f85w10 N M (f85s4 list6 from7 at8 m2_0 m2_1 m2_2) K =
  spec_l1Piece.Z10L N (fun list6 from7 => K (.exit 0) (f85s6 list6 from7)) M list6 from7 at8 m2_0 m2_1 m2_2
  | 0, _, _, _, _, _, _ => rfl
  | M + 1, list6, from7, at8, m2_0, m2_1, m2_2 => viaRound (fun k => spec_l1Piece.Z11 N list6 from7 at8 m2_0 m2_1 m2_2 k (fun list6 from7 => K (.exit 0) (f85s6 list6 from7))) (f85t11 N list6 from7 at8 m2_0 m2_1 m2_2 (seqK (fun σ => f85w10 N M σ K) K)) (funext fun list6 => funext fun from7 => funext fun at8 => funext fun m2_0 => funext fun m2_1 => funext fun m2_2 => f85t10L N K M list6 from7 at8 m2_0 m2_1 m2_2) (by kernel_rfl) (by kernel_rfl)
theorem f85t10 {ρ : Type} (N : Nat) (list6 : List Int) (from7 : List Int) (at8 : Int) (m2_0 : Int) (m2_1 : Int) (m2_2 : List Int) (K : KT ρ) : f85i N f85c10 f85p10 (f85s4 list6 from7 at8 m2_0 m2_1 m2_2) (joinK (some f85l6) K) =
  spec_l1Piece.Z10 N list6 from7 at8 m2_0 m2_1 m2_2 (fun list6 from7 => K (.exit 0) (f85s6 list6 from7)) :=
  viaLoop (by kernel_rfl) (by kernel_rfl) (σ' := f85s4 list6 from7 at8 m2_0 m2_1 m2_2) (by kernel_rfl) (f85t10L N (joinK (some f85l6) K) N list6 from7 at8 m2_0 m2_1 m2_2) (by kernel_rfl)
noncomputable def f85c9 := codeAt (bodyOf Try.f85) [1,1,1,0,1]
noncomputable def f85p9 : Plan := .mk (some f85l6) none f85p10 .n
theorem f85t9 {ρ : Type} (N : Nat) (list6 : List Int) (from7 : List Int) (at8 : Int) (m2_0 : Int) (m2_1 : Int) (m2_2 : List Int) (K : KT ρ) : f85i N f85c9 f85p9 (f85s4 list6 from7 at8 m2_0 m2_1 m2_2) (joinK (some f85l6) K) =
  spec_l1Piece.Z9 N list6 from7 at8 m2_0 m2_1 m2_2 (fun list6 from7 => K .nrm (f85s6 list6 from7)) :=
  viaBlock (by kernel_rfl) (by kernel_rfl) (f85t10 N list6 from7 at8 m2_0 m2_1 m2_2 (blockK 0 (joinK (some f85l6) K))) (by kernel_rfl)
noncomputable def f85c7 := codeAt (bodyOf Try.f85) [1,1,1,0]
noncomputable def f85p7 : Plan := .mk (some f85l4) none .n f85p9
theorem f85t7 {ρ : Type} (N : Nat) (list6 : List Int) (from7 : List Int) (m2_0 : Int) (m2_1 : Int) (m2_2 : List Int) (K : KT ρ) : f85i N f85c7 f85p7 (f85s3 list6 from7 m2_0 m2_1 m2_2) (joinK (some f85l6) K) =
  spec_l1Piece.Z7 N list6 from7 m2_0 m2_1 m2_2 (fun list6 from7 => K .nrm (f85s6 list6 from7)) :=
  viaSeq (fun k => spec_l1Piece.Z8 N list6 from7 m2_0 m2_1 m2_2 k) (by kernel_rfl) (by kernel_rfl) (f85t8 N list6 from7 m2_0 m2_1 m2_2 (seqK (fun σ => f85i N f85c9 f85p9 σ (joinK (some f85l6) K)) (joinK (some f85l6) K))) (funext fun list6 => funext fun from7 => funext fun at8 => funext fun m2_0 => funext fun m2_1 => funext fun m2_2 => f85t9 N list6 from7 at8 m2_0 m2_1 m2_2 K) (by kernel_rfl) (by kernel_rfl)
noncomputable def f85c21 := codeAt (bodyOf Try.f85) [1,1,1,1]
theorem f85t21 {ρ : Type} (N : Nat) (list6 : List Int) (from7 : List Int) (K : KT ρ) : f85i N f85c21 .n (f85s6 list6 from7) (joinK (some f85lE) K) =
  spec_l1Piece.Z21 N list6 from7 (fun t4 t5 => K .ret (f85s7 t4 t5)) := by kernel_rfl
noncomputable def f85c6 := codeAt (bodyOf Try.f85) [1,1,1]
noncomputable def f85p6 : Plan := .mk (some f85l6) none f85p7 .n
theorem f85t6 {ρ : Type} (N : Nat) (list6 : List Int) (from7 : List Int) (m2_0 : Int) (m2_1 : Int) (m2_2 : List Int) (K : KT ρ) : f85i N f85c6 f85p6 (f85s3 list6 from7 m2_0 m2_1 m2_2) (joinK (some f85lE) K) =
  spec_l1Piece.Z6 N list6 from7 m2_0 m2_1 m2_2 (fun t4 t5 => K .ret (f85s7 t4 t5)) :=
  viaSeq (fun k => spec_l1Piece.Z7 N list6 from7 m2_0 m2_1 m2_2 k) (by kernel_rfl) (by kernel_rfl) (f85t7 N list6 from7 m2_0 m2_1 m2_2 (seqK (fun σ => f85i N f85c21 .n σ (joinK (some f85lE) K)) (joinK (some f85lE) K))) (funext fun list6 => funext fun from7 => f85t21 N list6 from7 K) (by kernel_rfl) (by kernel_rfl)
noncomputable def f85c4 := codeAt (bodyOf Try.f85) [1,1]
noncomputable def f85p4 : Plan := .mk (some f85l3) none .n f85p6
theorem f85t4 {ρ : Type} (N : Nat) (list6 : List Int) (first1 : Int) (m2_0 : Int) (m2_1 : Int) (m2_2 : List Int) (K : KT ρ) : f85i N f85c4 f85p4 (f85s2 list6 first1 m2_0 m2_1 m2_2) (joinK (some f85lE) K) =
  spec_l1Piece.Z4 N list6 first1 m2_0 m2_1 m2_2 (fun t4 t5 => K .ret (f85s7 t4 t5)) :=
  viaSeq (fun k => spec_l1Piece.Z5 N list6 first1 m2_0 m2_1 m2_2 k) (by kernel_rfl) (by kernel_rfl) (f85t5 N list6 first1 m2_0 m2_1 m2_2 (seqK (fun σ => f85i N f85c6 f85p6 σ (joinK (some f85lE) K)) (joinK (some f85lE) K))) (funext fun list6 => funext fun from7 => funext fun m2_0 => funext fun m2_1 => funext fun m2_2 => f85t6 N list6 from7 m2_0 m2_1 m2_2 K) (by kernel_rfl) (by kernel_rfl)
noncomputable def f85c2 := codeAt (bodyOf Try.f85) [1]
noncomputable def f85p2 : Plan := .mk (some f85l2) none .n f85p4
theorem f85t2 {ρ : Type} (N : Nat) (first1 : Int) (m2_0 : Int) (m2_1 : Int) (m2_2 : List Int) (K : KT ρ) : f85i N f85c2 f85p2 (f85s1 first1 m2_0 m2_1 m2_2) (joinK (some f85lE) K) =
  spec_l1Piece.Z2 N first1 m2_0 m2_1 m2_2 (fun t4 t5 => K .ret (f85s7 t4 t5)) :=
  viaSeq (fun k => spec_l1Piece.Z3 N first1 m2_0 m2_1 m2_2 k) (by kernel_rfl) (by kernel_rfl) (f85t3 N first1 m2_0 m2_1 m2_2 (seqK (fun σ => f85i N f85c4 f85p4 σ (joinK (some f85lE) K)) (joinK (some f85lE) K))) (funext fun list6 => funext fun first1 => funext fun m2_0 => funext fun m2_1 => funext fun m2_2 => f85t4 N list6 first1 m2_0 m2_1 m2_2 K) (by kernel_rfl) (by kernel_rfl)
noncomputable def f85c0 := codeAt (bodyOf Try.f85) []
noncomputable def f85p0 : Plan := .mk (some f85l1) none .n f85p2
theorem f85t0 {ρ : Type} (N : Nat) (m0 : Int × Int × List Int) (first1 : Int) (K : KT ρ) : f85i N f85c0 f85p0 (f85s0 m0 first1) (joinK (some f85lE) K) =
  spec_l1Piece.Z0 N m0 first1 (fun t4 t5 => K .ret (f85s7 t4 t5)) :=
  viaSeq (fun k => spec_l1Piece.Z1 N m0 first1 k) (by kernel_rfl) (by kernel_rfl) (f85t1 N m0 first1 (seqK (fun σ => f85i N f85c2 f85p2 σ (joinK (some f85lE) K)) (joinK (some f85lE) K))) (funext fun first1 => funext fun m2_0 => funext fun m2_1 => funext fun m2_2 => f85t2 N first1 m2_0 m2_1 m2_2 K) (by kernel_rfl) (by kernel_rfl)
theorem f85m (N : Nat) (m0 : Int × Int × List Int) (first1 : Int) : f85i N f85c0 f85p0 (f85s0 m0 first1) (joinK (some f85lE) (finK tab f85sig Try.f85.results.toList)) = spec_l1Piece.Z0 N m0 first1 (fun t4 t5 => some ((), (t4, (t5, ())))) :=
  (f85t0 N m0 first1 (finK tab f85sig Try.f85.results.toList)).trans (by kernel_rfl)
theorem f85ok (h : spec_l1Piece.Spec) : EntryOk Try.prog 85 e85 :=
  entry_of_code (sig := f85sig) (c := f85c0) (pl := f85p0) (je := (some f85lE)) (B := f85B) Try.func85 (by kernel_rfl) (by kernel_rfl) (by kernel_rfl) tabOk f85GOk (by kernel_rfl) (by kernel_rfl) (by kernel_rfl) (by kernel_rfl) fun X hb hp => by
    obtain ⟨m0, first1, _⟩ := X
    obtain ⟨N, h⟩ := h m0 first1 hb.1 hp
    exact ⟨N, (f85m N m0 first1).trans (h N (Nat.le_refl N))⟩
theorem e85ok : EntryOk Try.prog 85 e85 := f85ok spec_l1Piece.ok
end Go.Fw
set_option linter.unusedVariables false
set_option linter.unusedSimpArgs false
set_option maxRecDepth 100000
namespace Go.Fw
open Go.Proofs
/-! ### loop.example/g03115/spec.l1Abs -/
noncomputable def f86sig : Sig := ⟨[⟨.int .i64, false, false⟩], [⟨.int .i64, false, false⟩]⟩
noncomputable def e86 : Entry := ⟨f86sig, none, fun X => ((), ((spec_l1Abs.g X.1), ()))⟩
noncomputable def f86G : Nat → Option Entry := (fun _ => none)
theorem f86GOk : GOk Try.prog f86G := GOk.nil
noncomputable def f86lE : Clean := ⟨[], [], [], [], []⟩
noncomputable def f86s0 (n0 : Int) : St := initSt f86sig.ps (n0, ())
noncomputable def f86s1 (t2 : Int) : St := stOf [(2, .c (.int .i64 t2))] [] []
noncomputable def f86l1 : Clean := ⟨[2], [], [], [], []⟩
noncomputable def f86B : Nat → Option Clean := lookL [(1000000, f86l1)]
noncomputable abbrev f86i {ρ : Type} (N : Nat) (c : Code) (p : Plan) (σ : St) (K : KT ρ) : Option ρ := iCode f86G tab f86B N c p σ K
noncomputable def f86c0 := codeAt (bodyOf Try.f86) []
theorem f86t0 {ρ : Type} (N : Nat) (n0 : Int) (K : KT ρ) : f86i N f86c0 .n (f86s0 n0) (joinK (some f86lE) K) =
  spec_l1Abs.Z0 N n0 (fun t2 => K .ret (f86s1 t2)) := by kernel_rfl
theorem f86m (N : Nat) (n0 : Int) : f86i N f86c0 .n (f86s0 n0) (joinK (some f86lE) (finK tab f86sig Try.f86.results.toList)) = spec_l1Abs.Z0 N n0 (fun t2 => some ((), (t2, ()))) :=
  (f86t0 N n0 (finK tab f86sig Try.f86.results.toList)).trans (by kernel_rfl)
theorem f86ok (h : spec_l1Abs.Spec) : EntryOk Try.prog 86 e86 :=
  entry_of_code (sig := f86sig) (c := f86c0) (pl := .n) (je := (some f86lE)) (B := f86B) Try.func86 (by kernel_rfl) (by kernel_rfl) (by kernel_rfl) tabOk f86GOk (by kernel_rfl) (by kernel_rfl) (by kernel_rfl) (by kernel_rfl) fun X hb hp => by
    obtain ⟨n0, _⟩ := X
    obtain ⟨N, h⟩ := h n0
    exact ⟨N, (f86m N n0).trans (h N (Nat.le_refl N))⟩
theorem e86ok : EntryOk Try.prog 86 e86 := f86ok spec_l1Abs.ok
end Go.Fw
set_option linter.unusedVariables false
set_option linter.unusedSimpArgs false
set_option maxRecDepth 100000
namespace Go.Fw
open Go.Proofs
/-! ### loop.example/g03115/spec.l1Gcd -/
noncomputable def f87sig : Sig := ⟨[⟨.int .i64, false, false⟩, ⟨.int .i64, false, false⟩], [⟨.int .i64, false, false⟩]⟩
noncomputable def e87 : Entry := ⟨f87sig, (some fun X => spec_l1Gcd.P X.1 X.2.1), fun X => ((), ((spec_l1Gcd.g X.1 X.2.1), ()))⟩
noncomputable def f87G : Nat → Option Entry := (fun _ => none)
theorem f87GOk : GOk Try.prog f87G := GOk.nil
noncomputable def f87lE : Clean := ⟨[], [], [], [], []⟩
noncomputable def f87s0 (a0 : Int) (b1 : Int) : St := initSt f87sig.ps (a0, (b1, ()))
noncomputable def f87s1 (a0 : Int) (b1 : Int) : St := stOf [(0, .c (.int .i64 a0)), (1, .c (.int .i64 b1))] [] []
noncomputable def f87l1 : Clean := ⟨[0, 1], [], [], [], []⟩
noncomputable def f87s2 (a0 : Int) : St := stOf [(0, .c (.int .i64 a0))] [] []
noncomputable def f87l2 : Clean := ⟨[0], [], [], [], []⟩
noncomputable def f87s3 (t4 : Int) : St := stOf [(4, .c (.int .i64 t4))] [] []
noncomputable def f87l3 : Clean := ⟨[4], [], [], [], []⟩
noncomputable def f87B : Nat → Option Clean := lookL [(0, f87l2), (1000000, f87l3)]
noncomputable abbrev f87i {ρ : Type} (N : Nat) (c : Code) (p : Plan) (σ : St) (K : KT ρ) : Option ρ := iCode f87G tab f87B N c p σ K
noncomputable def f87c1 := codeAt (bodyOf Try.f87) [0]
theorem f87t1 {ρ : Type} (N : Nat) (a0 : Int) (b1 : Int) (K : KT ρ) : f87i N f87c1 .n (f87s0 a0 b1) (joinK (some f87l1) K) =
  spec_l1Gcd.Z1 N a0 b1 (fun a0 b1 => K .nrm (f87s1 a0 b1)) := by kernel_rfl
noncomputable def f87c5 := codeAt (bodyOf Try.f87) [1,0,0,0]
theorem f87t5 {ρ : Type} (N : Nat) (a0 : Int) (b1 : Int) (K : KT ρ) : f87i N f87c5 .n (f87s1 a0 b1) (joinK (some f87l1) K) =
  spec_l1Gcd.Z5 N a0 b1 (fun a0 b1 => K .nrm (f87s1 a0 b1)) (fun a0 => K (.exit 0) (f87s2 a0)) := by kernel_rfl
noncomputable def f87c4 := codeAt (bodyOf Try.f87) [1,0,0]
noncomputable def f87p4 : Plan := .mk none (some f87l1) .n .n
noncomputable abbrev f87w4 {ρ : Type} (N : Nat) (M : Nat) (σ : St) (K : KT ρ) : Option ρ := loopC (fun σ K => f87i N f87c5 .n σ K) f87l1 M σ K
theorem f87t4L {ρ : Type} (N : Nat) (K : KT ρ) : ∀ (M : Nat) (a0 : Int) (b1 : Int), f87w4 N M (f87s1 a0 b1) K =
  spec_l1Gcd.Z4L N (fun a0 => K (.exit 0) (f87s2 a0)) M a0 b1
  | 0, _, _ => rfl
  | M + 1, a0, b1 => viaRound (fun k => spec_l1Gcd.Z5 N a0 b1 k (fun a0 => K (.exit 0) (f87s2 a0))) (f87t5 N a0 b1 (seqK (fun σ => f87w4 N M σ K) K)) (funext fun a0 => funext fun b1 => f87t4L N K M a0 b1) (by kernel_rfl) (by kernel_rfl)
theorem f87t4 {ρ : Type} (N : Nat) (a0 : Int) (b1 : Int) (K : KT ρ) : f87i N f87c4 f87p4 (f87s1 a0 b1) (joinK (some f87l2) K) =
  spec_l1Gcd.Z4 N a0 b1 (fun a0 => K (.exit 0) (f87s2 a0)) :=
  viaLoop (by kernel_rfl) (by kernel_rfl) (σ' := f87s1 a0 b1) (by kernel_rfl) (f87t4L N (joinK (some f87l2) K) N a0 b1) (by kernel_rfl)
noncomputable def f87c3 := codeAt (bodyOf Try.f87) [1,0]
noncomputable def f87p3 : Plan := .mk (some f87l2) none f87p4 .n
theorem f87t3 {ρ : Type} (N : Nat) (a0 : Int) (b1 : Int) (K : KT ρ) : f87i N f87c3 f87p3 (f87s1 a0 b1) (joinK (some f87l2) K) =
  spec_l1Gcd.Z3 N a0 b1 (fun a0 => K .nrm (f87s2 a0)) :=
  viaBlock (by kernel_rfl) (by kernel_rfl) (f87t4 N a0 b1 (blockK 0 (joinK (some f87l2) K))) (by kernel_rfl)
noncomputable def f87c6 := codeAt (bodyOf Try.f87) [1,1]
theorem f87t6 {ρ : Type} (N : Nat) (a0 : Int) (K : KT ρ) : f87i N f87c6 .n (f87s2 a0) (joinK (some f87lE) K) =
  spec_l1Gcd.Z6 N a0 (fun t4 => K .ret (f87s3 t4)) := by kernel_rfl
noncomputable def f87c2 := codeAt (bodyOf Try.f87) [1]
noncomputable def f87p2 : Plan := .mk (some f87l2) none f87p3 .n
theorem f87t2 {ρ : Type} (N : Nat) (a0 : Int) (b1 : Int) (K : KT ρ) : f87i N f87c2 f87p2 (f87s1 a0 b1) (joinK (some f87lE) K) =
  spec_l1Gcd.Z2 N a0 b1 (fun t4 => K .ret (f87s3 t4)) :=
  viaSeq (fun k => spec_l1Gcd.Z3 N a0 b1 k) (by kernel_rfl) (by kernel_rfl) (f87t3 N a0 b1 (seqK (fun σ => f87i N f87c6 .n σ (joinK (some f87lE) K)) (joinK (some f87lE) K))) (funext fun a0 => f87t6 N a0 K) (by kernel_rfl) (by kernel_rfl)
noncomputable def f87c0 := codeAt (bodyOf Try.f87) []
noncomputable def f87p0 : Plan := .mk (some f87l1) none .n f87p2
theorem f87t0 {ρ : Type} (N : Nat) (a0 : Int) (b1 : Int) (K : KT ρ) : f87i N f87c0 f87p0 (f87s0 a0 b1) (joinK (some f87lE) K) =
  spec_l1Gcd.Z0 N a0 b1 (fun t4 => K .ret (f87s3 t4)) :=
  viaSeq (fun k => spec_l1Gcd.Z1 N a0 b1 k) (by kernel_rfl) (by kernel_rfl) (f87t1 N a0 b1 (seqK (fun σ => f87i N f87c2 f87p2 σ (joinK (some f87lE) K)) (joinK (some f87lE) K))) (funext fun a0 => funext fun b1 => f87t2 N a0 b1 K) (by kernel_rfl) (by kernel_rfl)
theorem f87m (N : Nat) (a0 : Int) (b1 : Int) : f87i N f87c0 f87p0 (f87s0 a0 b1) (joinK (some f87lE) (finK tab f87sig Try.f87.results.toList)) = spec_l1Gcd.Z0 N a0 b1 (fun t4 => some ((), (t4, ()))) :=
  (f87t0 N a0 b1 (finK tab f87sig Try.f87.results.toList)).trans (by kernel_rfl)
theorem f87ok (h : spec_l1Gcd.Spec) : EntryOk Try.prog 87 e87 :=
  entry_of_code (sig := f87sig) (c := f87c0) (pl := f87p0) (je := (some f87lE)) (B := f87B) Try.func87 (by kernel_rfl) (by kernel_rfl) (by kernel_rfl) tabOk f87GOk (by kernel_rfl) (by kernel_rfl) (by kernel_rfl) (by kernel_rfl) fun X hb hp => by
    obtain ⟨a0, b1, _⟩ := X
    obtain ⟨N, h⟩ := h a0 b1 hp
    exact ⟨N, (f87m N a0 b1).trans (h N (Nat.le_refl N))⟩
theorem e87ok : EntryOk Try.prog 87 e87 := f87ok spec_l1Gcd.ok
end Go.Fw
set_option linter.unusedVariables false
set_option linter.unusedSimpArgs false
set_option maxRecDepth 100000
namespace Go.Fw
open Go.Proofs
/-! ### loop.example/g03115/spec.l1Factors -/
noncomputable def f65sig : Sig := ⟨[⟨.pair (.int .i64) (.pair (.int .i64) (.sl 3 (.int .i64))), true, false⟩], [⟨.sl 3 (.int .i64), false, false⟩, ⟨.bool, false, false⟩]⟩
noncomputable def e65 : Entry := ⟨f65sig, (some fun X => spec_l1Factors.P X.1), fun X => ((), ((spec_l1Factors.g X.1).1, ((spec_l1Factors.g X.1).2, ())))⟩
noncomputable def f65G : Nat → Option Entry := addG (addG (addG (addG (fun _ => none) 68 e68) 85 e85) 86 e86) 87 e87
theorem f65GOk : GOk Try.prog f65G := ((((GOk.nil).add e68ok (by kernel_rfl)).add e85ok (by kernel_rfl)).add e86ok (by kernel_rfl)).add e87ok (by kernel_rfl)
noncomputable def f65lE : Clean := ⟨[], [], [], [], []⟩
noncomputable def f65s0 (m0 : Int × Int × List Int) : St := initSt f65sig.ps (m0, ())
noncomputable def f65s1 (m1_0 : Int) (m1_1 : Int) (m1_2 : List Int) : St := stOf [(1, .c (.box 1 0))] [(1, (47, [.int .i64 m1_0, .int .i64 m1_1, .sn 3 (.int .i64) m1_2 none]))] []
noncomputable def f65l1 : Clean := ⟨[1], [1], [], [], []⟩
noncomputable def f65s2 (d4 : List Int) (m1_0 : Int) (m1_1 : Int) (m1_2 : List Int) : St := stOf [(1, .c (.box 1 0)), (4, .c (.own 1000256))] [(1, (47, [.int .i64 m1_0, .int .i64 m1_1, .sn 3 (.int .i64) m1_2 none]))] [(1000256, (⟨3, .int .i64, d4, true, false⟩ : Row))]
noncomputable def f65l2 : Clean := ⟨[1, 4], [1], [], [], [(⟨false, 4, 0⟩, 1000256)]⟩
noncomputable def f65s3 (d4 : List Int) (i5 : Int) (m1_0 : Int) (m1_1 : Int) (m1_2 : List Int) : St := stOf [(1, .c (.box 1 0)), (4, .c (.own 1000256)), (5, .c (.int .i64 i5))] [(1, (47, [.int .i64 m1_0, .int .i64 m1_1, .sn 3 (.int .i64) m1_2 none]))] [(1000256, (⟨3, .int .i64, d4, true, false⟩ : Row))]
noncomputable def f65l3 : Clean := ⟨[1, 4, 5], [1], [], [], [(⟨false, 4, 0⟩, 1000256)]⟩
noncomputable def f65s4 (d4 : List Int) (list6 : List Int) (from7 : List Int) (i5 : Int) (m1_0 : Int) (m1_1 : Int) (m1_2 : List Int) : St := stOf [(1, .c (.box 1 0)), (4, .c (.own 1000256)), (5, .c (.int .i64 i5)), (6, .c (.own 1000384)), (7, .c (.own 1000448))] [(1, (47, [.int .i64 m1_0, .int .i64 m1_1, .sn 3 (.int .i64) m1_2 none]))] [(1000256, (⟨3, .int .i64, d4, true, false⟩ : Row)), (1000384, (⟨3, .int .i64, list6, true, false⟩ : Row)), (1000448, (⟨3, .int .i64, from7, true, false⟩ : Row))]
noncomputable def f65l4 : Clean := ⟨[1, 4, 5, 6, 7], [1], [], [], [(⟨false, 4, 0⟩, 1000256), (⟨false, 6, 0⟩, 1000384), (⟨false, 7, 0⟩, 1000448)]⟩
noncomputable def f65s5 (d4 : List Int) (list6 : List Int) (from7 : List Int) (i5 : Int) (k8 : Int) (m1_0 : Int) (m1_1 : Int) (m1_2 : List Int) : St := stOf [(1, .c (.box 1 0)), (4, .c (.own 1000256)), (5, .c (.int .i64 i5)), (6, .c (.own 1000384)), (7, .c (.own 1000448)), (8, .c (.int .i64 k8))] [(1, (47, [.int .i64 m1_0, .int .i64 m1_1, .sn 3 (.int .i64) m1_2 none]))] [(1000256, (⟨3, .int .i64, d4, true, false⟩ : Row)), (1000384, (⟨3, .int .i64, list6, true, false⟩ : Row)), (1000448, (⟨3, .int .i64, from7, true, false⟩ : Row))]
noncomputable def f65l5 : Clean := ⟨[1, 4, 5, 6, 7, 8], [1], [], [], [(⟨false, 4, 0⟩, 1000256), (⟨false, 6, 0⟩, 1000384), (⟨false, 7, 0⟩, 1000448)]⟩
noncomputable def f65s6 (d4 : List Int) (list6 : List Int) (from7 : List Int) (i5 : Int) (g9 : Int) (m1_0 : Int) (m1_1 : Int) (m1_2 : List Int) : St := stOf [(1, .c (.box 1 0)), (4, .c (.own 1000256)), (5, .c (.int .i64 i5)), (6, .c (.own 1000384)), (7, .c (.own 1000448)), (9, .c (.int .i64 g9))] [(1, (47, [.int .i64 m1_0, .int .i64 m1_1, .sn 3 (.int .i64) m1_2 none]))] [(1000256, (⟨3, .int .i64, d4, true, false⟩ : Row)), (1000384, (⟨3, .int .i64, list6, true, false⟩ : Row)), (1000448, (⟨3, .int .i64, from7, true, false⟩ : Row))]
noncomputable def f65l6 : Clean := ⟨[1, 4, 5, 6, 7, 9], [1], [], [], [(⟨false, 4, 0⟩, 1000256), (⟨false, 6, 0⟩, 1000384), (⟨false, 7, 0⟩, 1000448)]⟩
noncomputable def f65s7 (d4 : List Int) (list6 : List Int) (from7 : List Int) (i5 : Int) (g9 : Int) (k10 : Int) (m1_0 : Int) (m1_1 : Int) (m1_2 : List Int) : St := stOf [(1, .c (.box 1 0)), (4, .c (.own 1000256)), (5, .c (.int .i64 i5)), (6, .c (.own 1000384)), (7, .c (.own 1000448)), (9, .c (.int .i64 g9)), (10, .c (.int .i64 k10))] [(1, (47, [.int .i64 m1_0, .int .i64 m1_1, .sn 3 (.int .i64) m1_2 none]))] [(1000256, (⟨3, .int .i64, d4, true, false⟩ : Row)), (1000384, (⟨3, .int .i64, list6, true, false⟩ : Row)), (1000448, (⟨3, .int .i64, from7, true, false⟩ : Row))]
noncomputable def f65l7 : Clean := ⟨[1, 4, 5, 6, 7, 9, 10], [1], [], [], [(⟨false, 4, 0⟩, 1000256), (⟨false, 6, 0⟩, 1000384), (⟨false, 7, 0⟩, 1000448)]⟩
noncomputable def f65s8 (d4 : List Int) (list6 : List Int) (i5 : Int) (g9 : Int) (m1_0 : Int) (m1_1 : Int) (m1_2 : List Int) : St := stOf [(1, .c (.box 1 0)), (4, .c (.own 1000256)), (5, .c (.int .i64 i5)), (6, .c (.own 1000384)), (9, .c (.int .i64 g9))] [(1, (47, [.int .i64 m1_0, .int .i64 m1_1, .sn 3 (.int .i64) m1_2 none]))] [(1000256, (⟨3, .int .i64, d4, true, false⟩ : Row)), (1000384, (⟨3, .int .i64, list6, true, false⟩ : Row))]
noncomputable def f65l8 : Clean := ⟨[1, 4, 5, 6, 9], [1], [], [], [(⟨false, 4, 0⟩, 1000256), (⟨false, 6, 0⟩, 1000384)]⟩
noncomputable def f65s9 (d4 : List Int) (list6 : List Int) (i5 : Int) (g9 : Int) (k11 : Int) (m1_0 : Int) (m1_1 : Int) (m1_2 : List Int) : St := stOf [(1, .c (.box 1 0)), (4, .c (.own 1000256)), (5, .c (.int .i64 i5)), (6, .c (.own 1000384)), (9, .c (.int .i64 g9)), (11, .c (.int .i64 k11))] [(1, (47, [.int .i64 m1_0, .int .i64 m1_1, .sn 3 (.int .i64) m1_2 none]))] [(1000256, (⟨3, .int .i64, d4, true, false⟩ : Row)), (1000384, (⟨3, .int .i64, list6, true, false⟩ : Row))]
noncomputable def f65l9 : Clean := ⟨[1, 4, 5, 6, 9, 11], [1], [], [], [(⟨false, 4, 0⟩, 1000256), (⟨false, 6, 0⟩, 1000384)]⟩
noncomputable def f65s10 (d4 : List Int) (i12 : Int) (m1_0 : Int) (m1_1 : Int) (m1_2 : List Int) : St := stOf [(1, .c (.box 1 0)), (4, .c (.own 1000256)), (12, .c (.int .i64 i12))] [(1, (47, [.int .i64 m1_0, .int .i64 m1_1, .sn 3 (.int .i64) m1_2 none]))] [(1000256, (⟨3, .int .i64, d4, true, false⟩ : Row))]
noncomputable def f65l10 : Clean := ⟨[1, 4, 12], [1], [], [], [(⟨false, 4, 0⟩, 1000256)]⟩
noncomputable def f65s11 (d4 : List Int) (i12 : Int) (j13 : Int) (m1_0 : Int) (m1_1 : Int) (m1_2 : List Int) : St := stOf [(1, .c (.box 1 0)), (4, .c (.own 1000256)), (12, .c (.int .i64 i12)), (13, .c (.int .i64 j13))] [(1, (47, [.int .i64 m1_0, .int .i64 m1_1, .sn 3 (.int .i64) m1_2 none]))] [(1000256, (⟨3, .int .i64, d4, true, false⟩ : Row))]
noncomputable def f65l11 : Clean := ⟨[1, 4, 12, 13], [1], [], [], [(⟨false, 4, 0⟩, 1000256)]⟩
noncomputable def f65s12 (d4 : List Int) : St := stOf [(4, .c (.own 1000256))] [] [(1000256, (⟨3, .int .i64, d4, true, false⟩ : Row))]
noncomputable def f65l12 : Clean := ⟨[4], [], [], [], [(⟨false, 4, 0⟩, 1000256)]⟩
noncomputable def f65s13 (t2 : List Int) (t3 : Bool) : St := stOf [(2, .c (.own 1000128)), (3, .c (.bool t3))] [] [(1000128, (⟨3, .int .i64, t2, true, false⟩ : Row))]
noncomputable def f65l13 : Clean := ⟨[2, 3], [], [⟨⟨false, 2, 0⟩, 30000000, 3, .int .i64, true⟩], [], [(⟨false, 2, 0⟩, 1000128)]⟩
noncomputable def f65B : Nat → Option Clean := lookL [(2, f65l4), (4, f65l8), (6, f65l3), (1, f65l3), (0, f65l2), (10, f65l10), (9, f65l10), (8, f65l12), (1000000, f65l13)]
noncomputable abbrev f65i {ρ : Type} (N : Nat) (c : Code) (p : Plan) (σ : St) (K : KT ρ) : Option ρ := iCode f65G tab f65B N c p σ K
noncomputable def f65c1 := codeAt (bodyOf Try.f65) [0]
theorem f65t1 {ρ : Type} (N : Nat) (m0 : Int × Int × List Int) (K : KT ρ) : f65i N f65c1 .n (f65s0 m0) (joinK (some f65l1) K) =
  spec_l1Factors.Z1 N m0 (fun m1_0 m1_1 m1_2 => K .nrm (f65s1 m1_0 m1_1 m1_2)) := by kernel_rfl
noncomputable def f65c3 := codeAt (bodyOf Try.f65) [1,0]
theorem f65t3 {ρ : Type} (N : Nat) (m1_0 : Int) (m1_1 : Int) (m1_2 : List Int) (K : KT ρ) : f65i N f65c3 .n (f65s1 m1_0 m1_1 m1_2) (joinK (some f65l2) K) =
  spec_l1Factors.Z3 N m1_0 m1_1 m1_2 (fun d4 m1_0 m1_1 m1_2 => K .nrm (f65s2 d4 m1_0 m1_1 m1_2)) := by kernel_rfl
noncomputable def f65c6 := codeAt (bodyOf Try.f65) [1,1,0,0]
theorem f65t6 {ρ : Type} (N : Nat) (d4 : List Int) (m1_0 : Int) (m1_1 : Int) (m1_2 : List Int) (K : KT ρ) : f65i N f65c6 .n (f65s2 d4 m1_0 m1_1 m1_2) (joinK (some f65l3) K) =
  spec_l1Factors.Z6 N d4 m1_0 m1_1 m1_2 (fun d4 i5 m1_0 m1_1 m1_2 => K .nrm (f65s3 d4 i5 m1_0 m1_1 m1_2)) := by kernel_rfl
noncomputable def f65c10 := codeAt (bodyOf Try.f65) [1,1,0,1,0,0,0]
theorem f65t10 {ρ : Type} (N : Nat) (d4 : List Int) (i5 : Int) (m1_0 : Int) (m1_1 : Int) (m1_2 : List Int) (K : KT ρ) : f65i N f65c10 .n (f65s3 d4 i5 m1_0 m1_1 m1_2) (joinK (some f65l3) K) =
  spec_l1Factors.Z10 N d4 i5 m1_0 m1_1 m1_2 (fun d4 i5 m1_0 m1_1 m1_2 => K .nrm (f65s3 d4 i5 m1_0 m1_1 m1_2)) (fun d4 m1_0 m1_1 m1_2 => K (.exit 0) (f65s2 d4 m1_0 m1_1 m1_2)) := by kernel_rfl
noncomputable def f65c14 := codeAt (bodyOf Try.f65) [1,1,0,1,0,0,1,0,0,0]
theorem f65t14 {ρ : Type} (N : Nat) (d4 : List Int) (i5 : Int) (m1_0 : Int) (m1_1 : Int) (m1_2 : List Int) (K : KT ρ) : f65i N f65c14 .n (f65s3 d4 i5 m1_0 m1_1 m1_2) (joinK (some f65l3) K) =
  spec_l1Factors.Z14 N d4 i5 m1_0 m1_1 m1_2 (fun d4 i5 m1_0 m1_1 m1_2 => K .nrm (f65s3 d4 i5 m1_0 m1_1 m1_2)) (fun d4 i5 m1_0 m1_1 m1_2 => K (.exit 1) (f65s3 d4 i5 m1_0 m1_1 m1_2)) := by kernel_rfl
noncomputable def f65c16 := codeAt (bodyOf Try.f65) [1,1,0,1,0,0,1,0,0,1,0]
theorem f65t16 {ρ : Type} (N : Nat) (d4 : List Int) (i5 : Int) (m1_0 : Int) (m1_1 : Int) (m1_2 : List Int) (K : KT ρ) : f65i N f65c16 .n (f65s3 d4 i5 m1_0 m1_1 m1_2) (joinK (some f65l4) K) =
  spec_l1Factors.Z16 N d4 i5 m1_0 m1_1 m1_2 (fun d4 list6 from7 i5 m1_0 m1_1 m1_2 => K .nrm (f65s4 d4 list6 from7 i5 m1_0 m1_1 m1_2)) := by kernel_rfl
noncomputable def f65c18 := codeAt (bodyOf Try.f65) [1,1,0,1,0,0,1,0,0,1,1,0]
theorem f65t18 {ρ : Type} (N : Nat) (d4 : List Int) (list6 : List Int) (from7 : List Int) (i5 : Int) (m1_0 : Int) (m1_1 : Int) (m1_2 : List Int) (K : KT ρ) : f65i N f65c18 .n (f65s4 d4 list6 from7 i5 m1_0 m1_1 m1_2) (joinK (some f65l4) K) =
  spec_l1Factors.Z18 N d4 list6 from7 i5 m1_0 m1_1 m1_2 (fun d4 list6 from7 i5 m1_0 m1_1 m1_2 => K .nrm (f65s4 d4 list6 from7 i5 m1_0 m1_1 m1_2)) := by kernel_rfl
noncomputable def f65c21 := codeAt (bodyOf Try.f65) [1,1,0,1,0,0,1,0,0,1,1,1,0,0]
theorem f65t21 {ρ : Type} (N : Nat) (d4 : List Int) (list6 : List Int) (from7 : List Int) (i5 : Int) (m1_0 : Int) (m1_1 : Int) (m1_2 : List Int) (K : KT ρ) : f65i N f65c21 .n (f65s4 d4 list6 from7 i5 m1_0 m1_1 m1_2) (joinK (some f65l5) K) =
  spec_l1Factors.Z21 N d4 list6 from7 i5 m1_0 m1_1 m1_2 (fun d4 list6 from7 i5 k8 m1_0 m1_1 m1_2 => K .nrm (f65s5 d4 list6 from7 i5 k8 m1_0 m1_1 m1_2)) := by kernel_rfl
noncomputable def f65c24 := codeAt (bodyOf Try.f65) [1,1,0,1,0,0,1,0,0,1,1,1,0,1,0,0]
theorem f65t24 {ρ : Type} (N : Nat) (d4 : List Int) (list6 : List Int) (from7 : List Int) (i5 : Int) (k8 : Int) (m1_0 : Int) (m1_1 : Int) (m1_2 : List Int) (K : KT ρ) : f65i N f65c24 .n (f65s5 d4 list6 from7 i5 k8 m1_0 m1_1 m1_2) (joinK (some f65l5) K) =
  spec_l1Factors.Z24 N d4 list6 from7 i5 k8 m1_0 m1_1 m1_2 (fun d4 list6 from7 i5 k8 m1_0 m1_1 m1_2 => K .nrm (f65s5 d4 list6 from7 i5 k8 m1_0 m1_1 m1_2)) (fun d4 list6 from7 i5 m1_0 m1_1 m1_2 => K (.exit 2) (f65s4 d4 list6 from7 i5 m1_0 m1_1 m1_2)) := by kernel_rfl
noncomputable def f65c23 := codeAt (bodyOf Try.f65) [1,1,0,1,0,0,1,0,0,1,1,1,0,1,0]
noncomputable def f65p23 : Plan := .mk none (some f65l5) .n .n
noncomputable abbrev f65w23 {ρ : Type} (N : Nat) (M : Nat) (σ : St) (K : KT ρ) : Option ρ := loopC (fun σ K => f65i N f65c24 .n σ K) f65l5 M σ K
theorem f65t23L {ρ : Type} (N : Nat) (K : KT ρ) : ∀ (M : Nat) (d4 : List Int) (list6 : List Int) (from7 : List Int) (i5 : Int) (k8 : Int) (m1_0 : Int) (m1_1 : Int) (m1_2 : List Int), f65w23 N M (f65s5 d4 list6 from7 i5 k8 m1_0 m1_1 m1_2) K =
  spec_l1Factors.Z23L N (fun d4 list6 from7 i5 m1_0 m1_1 m1_2 => K (.exit 2) (f65s4 d4 list6 from7 i5 m1_0 m1_1 m1_2)) M d4 list6 from7 i5 k8 m1_0 m1_1 m1_2
  | 0, _, _, _, _, _, _, _, _ => rfl
  | M + 1, d4, list6, from7, i5, k8, m1_0, m1_1, m1_2 => viaRound (fun k => spec_l1Factors.Z24 N d4 list6 from7 i5 k8 m1_0 m1_1 m1_2 k (fun d4 list6 from7 i5 m1_0 m1_1 m1_2 => K (.exit 2) (f65s4 d4 list6 from7 i5 m1_0 m1_1 m1_2))) (f65t24 N d4 list6 from7 i5 k8 m1_0 m1_1 m1_2 (seqK (fun σ => f65w23 N M σ K) K)) (funext fun d4 => funext fun list6 => funext fun from7 => funext fun i5 => funext fun k8 => funext fun m1_0 => funext fun m1_1 => funext fun m1_2 => f65t23L N K M d4 list6 from7 i5 k8 m1_0 m1_1 m1_2) (by kernel_rfl) (by kernel_rfl)
theorem f65t23 {ρ : Type} (N : Nat) (d4 : List Int) (list6 : List Int) (from7 : List Int) (i5 : Int) (k8 : Int) (m1_0 : Int) (m1_1 : Int) (m1_2 : List Int) (K : KT ρ) : f65i N f65c23 f65p23 (f65s5 d4 list6 from7 i5 k8 m1_0 m1_1 m1_2) (joinK (some f65l4) K) =
  spec_l1Factors.Z23 N d4 list6 from7 i5 k8 m1_0 m1_1 m1_2 (fun d4 list6 from7 i5 m1_0 m1_1 m1_2 => K (.exit 2) (f65s4 d4 list6 from7 i5 m1_0 m1_1 m1_2)) :=
  viaLoop (by kernel_rfl) (by kernel_rfl) (σ' := f65s5 d4 list6 from7 i5 k8 m1_0 m1_1 m1_2) (by kernel_rfl) (f65t23L N (joinK (some f65l4) K) N d4 list6 from7 i5 k8 m1_0 m1_1 m1_2) (by kernel_rfl)
noncomputable def f65c22 := codeAt (bodyOf Try.f65) [1,1,0,1,0,0,1,0,0,1,1,1,0,1]
noncomputable def f65p22 : Plan := .mk (some f65l4) none f65p23 .n
theorem f65t22 {ρ : Type} (N : Nat) (d4 : List Int) (list6 : List Int) (from7 : List Int) (i5 : Int) (k8 : Int) (m1_0 : Int) (m1_1 : Int) (m1_2 : List Int) (K : KT ρ) : f65i N f65c22 f65p22 (f65s5 d4 list6 from7 i5 k8 m1_0 m1_1 m1_2) (joinK (some f65l4) K) =
  spec_l1Factors.Z22 N d4 list6 from7 i5 k8 m1_0 m1_1 m1_2 (fun d4 list6 from7 i5 m1_0 m1_1 m1_2 => K .nrm (f65s4 d4 list6 from7 i5 m1_0 m1_1 m1_2)) :=
  viaBlock (by kernel_rfl) (by kernel_rfl) (f65t23 N d4 list6 from7 i5 k8 m1_0 m1_1 m1_2 (blockK 2 (joinK (some f65l4) K))) (by kernel_rfl)
noncomputable def f65c20 := codeAt (bodyOf Try.f65) [1,1,0,1,0,0,1,0,0,1,1,1,0]
noncomputable def f65p20 : Plan := .mk (some f65l5) none .n f65p22
theorem f65t20 {ρ : Type} (N : Nat) (d4 : List Int) (list6 : List Int) (from7 : List Int) (i5 : Int) (m1_0 : Int) (m1_1 : Int) (m1_2 : List Int) (K : KT ρ) : f65i N f65c20 f65p20 (f65s4 d4 list6 from7 i5 m1_0 m1_1 m1_2) (joinK (some f65l4) K) =
  spec_l1Factors.Z20 N d4 list6 from7 i5 m1_0 m1_1 m1_2 (fun d4 list6 from7 i5 m1_0 m1_1 m1_2 => K .nrm (f65s4 d4 list6 from7 i5 m1_0 m1_1 m1_2)) :=
  viaSeq (fun k => spec_l1Factors.Z21 N d4 list6 from7 i5 m1_0 m1_1 m1_2 k) (by kernel_rfl) (by kernel_rfl) (f65t21 N d4 list6 from7 i5 m1_0 m1_1 m1_2 (seqK (fun σ => f65i N f65c22 f65p22 σ (joinK (some f65l4) K)) (joinK (some f65l4) K))) (funext fun d4 => funext fun list6 => funext fun from7 => funext fun i5 => funext fun k8 => funext fun m1_0 => funext fun m1_1 => funext fun m1_2 => f65t22 N d4 list6 from7 i5 k8 m1_0 m1_1 m1_2 K) (by kernel_rfl) (by kernel_rfl)
noncomputable def f65c26 := codeAt (bodyOf Try.f65) [1,1,0,1,0,0,1,0,0,1,1,1,1,0]
theorem f65t26 {ρ : Type} (N : Nat) (d4 : List Int) (list6 : List Int) (from7 : List Int) (i5 : Int) (m1_0 : Int) (m1_1 : Int) (m1_2 : List Int) (K : KT ρ) : f65i N f65c26 .n (f65s4 d4 list6 from7 i5 m1_0 m1_1 m1_2) (joinK (some f65l6) K) =
  spec_l1Factors.Z26 N d4 list6 from7 i5 m1_0 m1_1 m1_2 (fun d4 list6 from7 i5 g9 m1_0 m1_1 m1_2 => K .nrm (f65s6 d4 list6 from7 i5 g9 m1_0 m1_1 m1_2)) := by kernel_rfl
noncomputable def f65c29 := codeAt (bodyOf Try.f65) [1,1,0,1,0,0,1,0,0,1,1,1,1,1,0,0]
theorem f65t29 {ρ : Type} (N : Nat) (d4 : List Int) (list6 : List Int) (from7 : List Int) (i5 : Int) (g9 : Int) (m1_0 : Int) (m1_1 : Int) (m1_2 : List Int) (K : KT ρ) : f65i N f65c29 .n (f65s6 d4 list6 from7 i5 g9 m1_0 m1_1 m1_2) (joinK (some f65l7) K) =
  spec_l1Factors.Z29 N d4 list6 from7 i5 g9 m1_0 m1_1 m1_2 (fun d4 list6 from7 i5 g9 k10 m1_0 m1_1 m1_2 => K .nrm (f65s7 d4 list6 from7 i5 g9 k10 m1_0 m1_1 m1_2)) := by kernel_rfl
noncomputable def f65c32 := codeAt (bodyOf Try.f65) [1,1,0,1,0,0,1,0,0,1,1,1,1,1,0,1,0,0]
theorem f65t32 {ρ : Type} (N : Nat) (d4 : List Int) (list6 : List Int) (from7 : List Int) (i5 : Int) (g9 : Int) (k10 : Int) (m1_0 : Int) (m1_1 : Int) (m1_2 : List Int) (K : KT ρ) : f65i N f65c32 .n (f65s7 d4 list6 from7 i5 g9 k10 m1_0 m1_1 m1_2) (joinK (some f65l7) K) =
  spec_l1Factors.Z32 N d4 list6 from7 i5 g9 k10 m1_0 m1_1 m1_2 (fun d4 list6 from7 i5 g9 k10 m1_0 m1_1 m1_2 => K .nrm (f65s7 d4 list6 from7 i5 g9 k10 m1_0 m1_1 m1_2)) (fun d4 list6 i5 g9 m1_0 m1_1 m1_2 => K (.exit 4) (f65s8 d4 list6 i5 g9 m1_0 m1_1 m1_2)) := by kernel_rfl
noncomputable def f65c31 := codeAt (bodyOf Try.f65) [1,1,0,1,0,0,1,0,0,1,1,1,1,1,0,1,0]
noncomputable def f65p31 : Plan := .mk none (some f65l7) .n .n
noncomputable abbrev f65w31 {ρ : Type} (N : Nat) (M : Nat) (σ : St) (K : KT ρ) : Option ρ := loopC (fun σ K => f65i N f65c32 .n σ K) f65l7 M σ K
theorem f65t31L {ρ : Type} (N : Nat) (K : KT ρ) : ∀ (M : Nat) (d4 : List Int) (list6 : List Int) (from7 : List Int) (i5 : Int) (g9 : Int) (k10 : Int) (m1_0 : Int) (m1_1 : Int) (m1_2 : List Int), f65w31 N M (f65s7 d4 list6 from7 i5 g9 k10 m1_0 m1_1 m1_2) K =
  spec_l1Factors.Z31L N (fun d4 list6 i5 g9 m1_0 m1_1 m1_2 => K (.exit 4) (f65s8 d4 list6 i5 g9 m1_0 m1_1 m1_2)) M d4 list6 from7 i5 g9 k10 m1_0 m1_1 m1_2
  | 0, _, _, _, _, _, _, _, _, _ => rfl
  | M + 1, d4, list6, from7, i5, g9, k10, m1_0, m1_1, m1_2 => viaRound (fun k => spec_l1Factors.Z32 N d4 list6 from7 i5 g9 k10 m1_0 m1_1 m1_2 k (fun d4 list6 i5 g9 m1_0 m1_1 m1_2 => K (.exit 4) (f65s8 d4 list6 i5 g9 m1_0 m1_1 m1_2))) (f65t32 N d4 list6 from7 i5 g9 k10 m1_0 m1_1 m1_2 (seqK (fun σ => f65w31 N M σ K) K)) (funext fun d4 => funext fun list6 => funext fun from7 => funext fun i5 => funext fun g9 => funext fun k10 => funext fun m1_0 => funext fun m1_1 => funext fun m1_2 => f65t31L N K M d4 list6 from7 i5 g9 k10 m1_0 m1_1 m1_2) (by kernel_rfl) (by kernel_rfl)
theorem f65t31 {ρ : Type} (N : Nat) (d4 : List Int) (list6 : List Int) (from7 : List Int) (i5 : Int) (g9 : Int) (k10 : Int) (m1_0 : Int) (m1_1 : Int) (m1_2 : List Int) (K : KT ρ) : f65i N f65c31 f65p31 (f65s7 d4 list6 from7 i5 g9 k10 m1_0 m1_1 m1_2) (joinK (some f65l8) K) =
  spec_l1Factors.Z31 N d4 list6 from7 i5 g9 k10 m1_0 m1_1 m1_2 (fun d4 list6 i5 g9 m1_0 m1_1 m1_2 => K (.exit 4) (f65s8 d4 list6 i5 g9 m1_0 m1_1 m1_2)) :=
  viaLoop (by kernel_rfl) (by kernel_rfl) (σ' := f65s7 d4 list6 from7 i5 g9 k10 m1_0 m1_1 m1_2) (by kernel_rfl) (f65t31L N (joinK (some f65l8) K) N d4 list6 from7 i5 g9 k10 m1_0 m1_1 m1_2) (by kernel_rfl)
noncomputable def f65c30 := codeAt (bodyOf Try.f65) [1,1,0,1,0,0,1,0,0,1,1,1,1,1,0,1]
noncomputable def f65p30 : Plan := .mk (some f65l8) none f65p31 .n
theorem f65t30 {ρ : Type} (N : Nat) (d4 : List Int) (list6 : List Int) (from7 : List Int) (i5 : Int) (g9 : Int) (k10 : Int) (m1_0 : Int) (m1_1 : Int) (m1_2 : List Int) (K : KT ρ) : f65i N f65c30 f65p30 (f65s7 d4 list6 from7 i5 g9 k10 m1_0 m1_1 m1_2) (joinK (some f65l8) K) =
  spec_l1Factors.Z30 N d4 list6 from7 i5 g9 k10 m1_0 m1_1 m1_2 (fun d4 list6 i5 g9 m1_0 m1_1 m1_2 => K .nrm (f65s8 d4 list6 i5 g9 m1_0 m1_1 m1_2)) :=
  viaBlock (by kernel_rfl) (by kernel_rfl) (f65t31 N d4 list6 from7 i5 g9 k10 m1_0 m1_1 m1_2 (blockK 4 (joinK (some f65l8) K))) (by kernel_rfl)
noncomputable def f65c28 := codeAt (bodyOf Try.f65) [1,1,0,1,0,0,1,0,0,1,1,1,1,1,0]
noncomputable def f65p28 : Plan := .mk (some f65l7) none .n f65p30
theorem f65t28 {ρ : Type} (N : Nat) (d4 : List Int) (list6 : List Int) (from7 : List Int) (i5 : Int) (g9 : Int) (m1_0 : Int) (m1_1 : Int) (m1_2 : List Int) (K : KT ρ) : f65i N f65c28 f65p28 (f65s6 d4 list6 from7 i5 g9 m1_0 m1_1 m1_2) (joinK (some f65l8) K) =
  spec_l1Factors.Z28 N d4 list6 from7 i5 g9 m1_0 m1_1 m1_2 (fun d4 list6 i5 g9 m1_0 m1_1 m1_2 => K .nrm (f65s8 d4 list6 i5 g9 m1_0 m1_1 m1_2)) :=
  viaSeq (fun k => spec_l1Factors.Z29 N d4 list6 from7 i5 g9 m1_0 m1_1 m1_2 k) (by kernel_rfl) (by kernel_rfl) (f65t29 N d4 list6 from7 i5 g9 m1_0 m1_1 m1_2 (seqK (fun σ => f65i N f65c30 f65p30 σ (joinK (some f65l8) K)) (joinK (some f65l8) K))) (funext fun d4 => funext fun list6 => funext fun from7 => funext fun i5 => funext fun g9 => funext fun k10 => funext fun m1_0 => funext fun m1_1 => funext fun m1_2 => f65t30 N d4 list6 from7 i5 g9 k10 m1_0 m1_1 m1_2 K) (by kernel_rfl) (by kernel_rfl)
noncomputable def f65c34 := codeAt (bodyOf Try.f65) [1,1,0,1,0,0,1,0,0,1,1,1,1,1,1,0]
theorem f65t34 {ρ : Type} (N : Nat) (d4 : List Int) (list6 : List Int) (i5 : Int) (g9 : Int) (m1_0 : Int) (m1_1 : Int) (m1_2 : List Int) (K : KT ρ) : f65i N f65c34 .n (f65s8 d4 list6 i5 g9 m1_0 m1_1 m1_2) (joinK (some f65l9) K) =
  spec_l1Factors.Z34 N d4 list6 i5 g9 m1_0 m1_1 m1_2 (fun d4 list6 i5 g9 k11 m1_0 m1_1 m1_2 => K .nrm (f65s9 d4 list6 i5 g9 k11 m1_0 m1_1 m1_2)) := by kernel_rfl
noncomputable def f65c37 := codeAt (bodyOf Try.f65) [1,1,0,1,0,0,1,0,0,1,1,1,1,1,1,1,0,0]
theorem f65t37 {ρ : Type} (N : Nat) (d4 : List Int) (list6 : List Int) (i5 : Int) (g9 : Int) (k11 : Int) (m1_0 : Int) (m1_1 : Int) (m1_2 : List Int) (K : KT ρ) : f65i N f65c37 .n (f65s9 d4 list6 i5 g9 k11 m1_0 m1_1 m1_2) (joinK (some f65l9) K) =
  spec_l1Factors.Z37 N d4 list6 i5 g9 k11 m1_0 m1_1 m1_2 (fun d4 list6 i5 g9 k11 m1_0 m1_1 m1_2 => K .nrm (f65s9 d4 list6 i5 g9 k11 m1_0 m1_1 m1_2)) (fun d4 i5 m1_0 m1_1 m1_2 => K (.exit 6) (f65s3 d4 i5 m1_0 m1_1 m1_2)) := by kernel_rfl
noncomputable def f65c36 := codeAt (bodyOf Try.f65) [1,1,0,1,0,0,1,0,0,1,1,1,1,1,1,1,0]
noncomputable def f65p36 : Plan := .mk none (some f65l9) .n .n
noncomputable abbrev f65w36 {ρ : Type} (N : Nat) (M : Nat) (σ : St) (K : KT ρ) : Option ρ := loopC (fun σ K => f65i N f65c37 .n σ K) f65l9 M σ K
theorem f65t36L {ρ : Type} (N : Nat) (K : KT ρ) : ∀ (M : Nat) (d4 : List Int) (list6 : List Int) (i5 : Int) (g9 : Int) (k11 : Int) (m1_0 : Int) (m1_1 : Int) (m1_2 : List Int), f65w36 N M (f65s9 d4 list6 i5 g9 k11 m1_0 m1_1 m1_2) K =
  spec_l1Factors.Z36L N (fun d4 i5 m1_0 m1_1 m1_2 => K (.exit 6) (f65s3 d4 i5 m1_0 m1_1 m1_2)) M d4 list6 i5 g9 k11 m1_0 m1_1 m1_2
  | 0, _, _, _, _, _, _, _, _ => rfl
  | M + 1, d4, list6, i5, g9, k11, m1_0, m1_1, m1_2 => viaRound (fun k => spec_l1Factors.Z37 N d4 list6 i5 g9 k11 m1_0 m1_1 m1_2 k (fun d4 i5 m1_0 m1_1 m1_2 => K (.exit 6) (f65s3 d4 i5 m1_0 m1_1 m1_2))) (f65t37 N d4 list6 i5 g9 k11 m1_0 m1_1 m1_2 (seqK (fun σ => f65w36 N M σ K) K)) (funext fun d4 => funext fun list6 => funext fun i5 => funext fun g9 => funext fun k11 => funext fun m1_0 => funext fun m1_1 => funext fun m1_2 => f65t36L N K M d4 list6 i5 g9 k11 m1_0 m1_1 m1_2) (by kernel_rfl) (by kernel_rfl)
theorem f65t36 {ρ : Type} (N : Nat) (d4 : List Int) (list6 : List Int) (i5 : Int) (g9 : Int) (k11 : Int) (m1_0 : Int) (m1_1 : Int) (m1_2 : List Int) (K : KT ρ) : f65i N f65c36 f65p36 (f65s9 d4 list6 i5 g9 k11 m1_0 m1_1 m1_2) (joinK (some f65l3) K) =
  spec_l1Factors.Z36 N d4 list6 i5 g9 k11 m1_0 m1_1 m1_2 (fun d4 i5 m1_0 m1_1 m1_2 => K (.exit 6) (f65s3 d4 i5 m1_0 m1_1 m1_2)) :=
  viaLoop (by kernel_rfl) (by kernel_rfl) (σ' := f65s9 d4 list6 i5 g9 k11 m1_0 m1_1 m1_2) (by kernel_rfl) (f65t36L N (joinK (some f65l3) K) N d4 list6 i5 g9 k11 m1_0 m1_1 m1_2) (by kernel_rfl)
noncomputable def f65c35 := codeAt (bodyOf Try.f65) [1,1,0,1,0,0,1,0,0,1,1,1,1,1,1,1]
noncomputable def f65p35 : Plan := .mk (some f65l3) none f65p36 .n
theorem f65t35 {ρ : Type} (N : Nat) (d4 : List Int) (list6 : List Int) (i5 : Int) (g9 : Int) (k11 : Int) (m1_0 : Int) (m1_1 : Int) (m1_2 : List Int) (K : KT ρ) : f65i N f65c35 f65p35 (f65s9 d4 list6 i5 g9 k11 m1_0 m1_1 m1_2) (joinK (some f65l3) K) =
  spec_l1Factors.Z35 N d4 list6 i5 g9 k11 m1_0 m1_1 m1_2 (fun d4 i5 m1_0 m1_1 m1_2 => K .nrm (f65s3 d4 i5 m1_0 m1_1 m1_2)) :=
  viaBlock (by kernel_rfl) (by kernel_rfl) (f65t36 N d4 list6 i5 g9 k11 m1_0 m1_1 m1_2 (blockK 6 (joinK (some f65l3) K))) (by kernel_rfl)
noncomputable def f65c33 := codeAt (bodyOf Try.f65) [1,1,0,1,0,0,1,0,0,1,1,1,1,1,1]
noncomputable def f65p33 : Plan := .mk (some f65l9) none .n f65p35
theorem f65t33 {ρ : Type} (N : Nat) (d4 : List Int) (list6 : List Int) (i5 : Int) (g9 : Int) (m1_0 : Int) (m1_1 : Int) (m1_2 : List Int) (K : KT ρ) : f65i N f65c33 f65p33 (f65s8 d4 list6 i5 g9 m1_0 m1_1 m1_2) (joinK (some f65l3) K) =
  spec_l1Factors.Z33 N d4 list6 i5 g9 m1_0 m1_1 m1_2 (fun d4 i5 m1_0 m1_1 m1_2 => K .nrm (f65s3 d4 i5 m1_0 m1_1 m1_2)) :=
  viaSeq (fun k => spec_l1Factors.Z34 N d4 list6 i5 g9 m1_0 m1_1 m1_2 k) (by kernel_rfl) (by kernel_rfl) (f65t34 N d4 list6 i5 g9 m1_0 m1_1 m1_2 (seqK (fun σ => f65i N f65c35 f65p35 σ (joinK (some f65l3) K)) (joinK (some f65l3) K))) (funext fun d4 => funext fun list6 => funext fun i5 => funext fun g9 => funext fun k11 => funext fun m1_0 => funext fun m1_1 => funext fun m1_2 => f65t35 N d4 list6 i5 g9 k11 m1_0 m1_1 m1_2 K) (by kernel_rfl) (by kernel_rfl)
noncomputable def f65c27 := codeAt (bodyOf Try.f65) [1,1,0,1,0,0,1,0,0,1,1,1,1,1]
noncomputable def f65p27 : Plan := .mk (some f65l8) none f65p28 f65p33
theorem f65t27 {ρ : Type} (N : Nat) (d4 : List Int) (list6 : List Int) (from7 : List Int) (i5 : Int) (g9 : Int) (m1_0 : Int) (m1_1 : Int) (m1_2 : List Int) (K : KT ρ) : f65i N f65c27 f65p27 (f65s6 d4 list6 from7 i5 g9 m1_0 m1_1 m1_2) (joinK (some f65l3) K) =
  spec_l1Factors.Z27 N d4 list6 from7 i5 g9 m1_0 m1_1 m1_2 (fun d4 i5 m1_0 m1_1 m1_2 => K .nrm (f65s3 d4 i5 m1_0 m1_1 m1_2)) :=
  viaSeq (fun k => spec_l1Factors.Z28 N d4 list6 from7 i5 g9 m1_0 m1_1 m1_2 k) (by kernel_rfl) (by kernel_rfl) (f65t28 N d4 list6 from7 i5 g9 m1_0 m1_1 m1_2 (seqK (fun σ => f65i N f65c33 f65p33 σ (joinK (some f65l3) K)) (joinK (some f65l3) K))) (funext fun d4 => funext fun list6 => funext fun i5 => funext fun g9 => funext fun m1_0 => funext fun m1_1 => funext fun m1_2 => f65t33 N d4 list6 i5 g9 m1_0 m1_1 m1_2 K) (by kernel_rfl) (by kernel_rfl)
noncomputable def f65c25 := codeAt (bodyOf Try.f65) [1,1,0,1,0,0,1,0,0,1,1,1,1]
noncomputable def f65p25 : Plan := .mk (some f65l6) none .n f65p27
theorem f65t25 {ρ : Type} (N : Nat) (d4 : List Int) (list6 : List Int) (from7 : List Int) (i5 : Int) (m1_0 : Int) (m1_1 : Int) (m1_2 : List Int) (K : KT ρ) : f65i N f65c25 f65p25 (f65s4 d4 list6 from7 i5 m1_0 m1_1 m1_2) (joinK (some f65l3) K) =
  spec_l1Factors.Z25 N d4 list6 from7 i5 m1_0 m1_1 m1_2 (fun d4 i5 m1_0 m1_1 m1_2 => K .nrm (f65s3 d4 i5 m1_0 m1_1 m1_2)) :=
  viaSeq (fun k => spec_l1Factors.Z26 N d4 list6 from7 i5 m1_0 m1_1 m1_2 k) (by kernel_rfl) (by kernel_rfl) (f65t26 N d4 list6 from7 i5 m1_0 m1_1 m1_2 (seqK (fun σ => f65i N f65c27 f65p27 σ (joinK (some f65l3) K)) (joinK (some f65l3) K))) (funext fun d4 => funext fun list6 => funext fun from7 => funext fun i5 => funext fun g9 => funext fun m1_0 => funext fun m1_1 => funext fun m1_2 => f65t27 N d4 list6 from7 i5 g9 m1_0 m1_1 m1_2 K) (by kernel_rfl) (by kernel_rfl)
noncomputable def f65c19 := codeAt (bodyOf Try.f65) [1,1,0,1,0,0,1,0,0,1,1,1]
noncomputable def f65p19 : Plan := .mk (some f65l4) none f65p20 f65p25
theorem f65t19 {ρ : Type} (N : Nat) (d4 : List Int) (list6 : List Int) (from7 : List Int) (i5 : Int) (m1_0 : Int) (m1_1 : Int) (m1_2 : List Int) (K : KT ρ) : f65i N f65c19 f65p19 (f65s4 d4 list6 from7 i5 m1_0 m1_1 m1_2) (joinK (some f65l3) K) =
  spec_l1Factors.Z19 N d4 list6 from7 i5 m1_0 m1_1 m1_2 (fun d4 i5 m1_0 m1_1 m1_2 => K .nrm (f65s3 d4 i5 m1_0 m1_1 m1_2)) :=
  viaSeq (fun k => spec_l1Factors.Z20 N d4 list6 from7 i5 m1_0 m1_1 m1_2 k) (by kernel_rfl) (by kernel_rfl) (f65t20 N d4 list6 from7 i5 m1_0 m1_1 m1_2 (seqK (fun σ => f65i N f65c25 f65p25 σ (joinK (some f65l3) K)) (joinK (some f65l3) K))) (funext fun d4 => funext fun list6 => funext fun from7 => funext fun i5 => funext fun m1_0 => funext fun m1_1 => funext fun m1_2 => f65t25 N d4 list6 from7 i5 m1_0 m1_1 m1_2 K) (by kernel_rfl) (by kernel_rfl)
noncomputable def f65c17 := codeAt (bodyOf Try.f65) [1,1,0,1,0,0,1,0,0,1,1]
noncomputable def f65p17 : Plan := .mk (some f65l4) none .n f65p19
theorem f65t17 {ρ : Type} (N : Nat) (d4 : List Int) (list6 : List Int) (from7 : List Int) (i5 : Int) (m1_0 : Int) (m1_1 : Int) (m1_2 : List Int) (K : KT ρ) : f65i N f65c17 f65p17 (f65s4 d4 list6 from7 i5 m1_0 m1_1 m1_2) (joinK (some f65l3) K) =
  spec_l1Factors.Z17 N d4 list6 from7 i5 m1_0 m1_1 m1_2 (fun d4 i5 m1_0 m1_1 m1_2 => K .nrm (f65s3 d4 i5 m1_0 m1_1 m1_2)) :=
  viaSeq (fun k => spec_l1Factors.Z18 N d4 list6 from7 i5 m1_0 m1_1 m1_2 k) (by kernel_rfl) (by kernel_rfl) (f65t18 N d4 list6 from7 i5 m1_0 m1_1 m1_2 (seqK (fun σ => f65i N f65c19 f65p19 σ (joinK (some f65l3) K)) (joinK (some f65l3) K))) (funext fun d4 => funext fun list6 => funext fun from7 => funext fun i5 => funext fun m1_0 => funext fun m1_1 => funext fun m1_2 => f65t19 N d4 list6 from7 i5 m1_0 m1_1 m1_2 K) (by kernel_rfl) (by kernel_rfl)
noncomputable def f65c15 := codeAt (bodyOf Try.f65) [1,1,0,1,0,0,1,0,0,1]
noncomputable def f65p15 : Plan := .mk (some f65l4) none .n f65p17
theorem f65t15 {ρ : Type} (N : Nat) (d4 : List Int) (i5 : Int) (m1_0 : Int) (m1_1 : Int) (m1_2 : List Int) (K : KT ρ) : f65i N f65c15 f65p15 (f65s3 d4 i5 m1_0 m1_1 m1_2) (joinK (some f65l3) K) =
  spec_l1Factors.Z15 N d4 i5 m1_0 m1_1 m1_2 (fun d4 i5 m1_0 m1_1 m1_2 => K .nrm (f65s3 d4 i5 m1_0 m1_1 m1_2)) :=
  viaSeq (fun k => spec_l1Factors.Z16 N d4 i5 m1_0 m1_1 m1_2 k) (by kernel_rfl) (by kernel_rfl) (f65t16 N d4 i5 m1_0 m1_1 m1_2 (seqK (fun σ => f65i N f65c17 f65p17 σ (joinK (some f65l3) K)) (joinK (some f65l3) K))) (funext fun d4 => funext fun list6 => funext fun from7 => funext fun i5 => funext fun m1_0 => funext fun m1_1 => funext fun m1_2 => f65t17 N d4 list6 from7 i5 m1_0 m1_1 m1_2 K) (by kernel_rfl) (by kernel_rfl)
noncomputable def f65c13 := codeAt (bodyOf Try.f65) [1,1,0,1,0,0,1,0,0]
noncomputable def f65p13 : Plan := .mk (some f65l3) none .n f65p15
theorem f65t13 {ρ : Type} (N : Nat) (d4 : List Int) (i5 : Int) (m1_0 : Int) (m1_1 : Int) (m1_2 : List Int) (K : KT ρ) : f65i N f65c13 f65p13 (f65s3 d4 i5 m1_0 m1_1 m1_2) (joinK (some f65l3) K) =
  spec_l1Factors.Z13 N d4 i5 m1_0 m1_1 m1_2 (fun d4 i5 m1_0 m1_1 m1_2 => K .nrm (f65s3 d4 i5 m1_0 m1_1 m1_2)) (fun d4 i5 m1_0 m1_1 m1_2 => K (.exit 1) (f65s3 d4 i5 m1_0 m1_1 m1_2)) :=
  viaSeq (fun k => spec_l1Factors.Z14 N d4 i5 m1_0 m1_1 m1_2 k (fun d4 i5 m1_0 m1_1 m1_2 => K (.exit 1) (f65s3 d4 i5 m1_0 m1_1 m1_2))) (by kernel_rfl) (by kernel_rfl) (f65t14 N d4 i5 m1_0 m1_1 m1_2 (seqK (fun σ => f65i N f65c15 f65p15 σ (joinK (some f65l3) K)) (joinK (some f65l3) K))) (funext fun d4 => funext fun i5 => funext fun m1_0 => funext fun m1_1 => funext fun m1_2 => f65t15 N d4 i5 m1_0 m1_1 m1_2 K) (by kernel_rfl) (by kernel_rfl)
noncomputable def f65c12 := codeAt (bodyOf Try.f65) [1,1,0,1,0,0,1,0]
noncomputable def f65p12 : Plan := .mk (some f65l3) none f65p13 .n
theorem f65t12 {ρ : Type} (N : Nat) (d4 : List Int) (i5 : Int) (m1_0 : Int) (m1_1 : Int) (m1_2 : List Int) (K : KT ρ) : f65i N f65c12 f65p12 (f65s3 d4 i5 m1_0 m1_1 m1_2) (joinK (some f65l3) K) =
  spec_l1Factors.Z12 N d4 i5 m1_0 m1_1 m1_2 (fun d4 i5 m1_0 m1_1 m1_2 => K .nrm (f65s3 d4 i5 m1_0 m1_1 m1_2)) :=
  viaBlock (by kernel_rfl) (by kernel_rfl) (f65t13 N d4 i5 m1_0 m1_1 m1_2 (blockK 1 (joinK (some f65l3) K))) (by kernel_rfl)
noncomputable def f65c38 := codeAt (bodyOf Try.f65) [1,1,0,1,0,0,1,1]
theorem f65t38 {ρ : Type} (N : Nat) (d4 : List Int) (i5 : Int) (m1_0 : Int) (m1_1 : Int) (m1_2 : List Int) (K : KT ρ) : f65i N f65c38 .n (f65s3 d4 i5 m1_0 m1_1 m1_2) (joinK (some f65l3) K) =
  spec_l1Factors.Z38 N d4 i5 m1_0 m1_1 m1_2 (fun d4 i5 m1_0 m1_1 m1_2 => K .nrm (f65s3 d4 i5 m1_0 m1_1 m1_2)) := by kernel_rfl
noncomputable def f65c11 := codeAt (bodyOf Try.f65) [1,1,0,1,0,0,1]
noncomputable def f65p11 : Plan := .mk (some f65l3) none f65p12 .n
theorem f65t11 {ρ : Type} (N : Nat) (d4 : List Int) (i5 : Int) (m1_0 : Int) (m1_1 : Int) (m1_2 : List Int) (K : KT ρ) : f65i N f65c11 f65p11 (f65s3 d4 i5 m1_0 m1_1 m1_2) (joinK (some f65l3) K) =
  spec_l1Factors.Z11 N d4 i5 m1_0 m1_1 m1_2 (fun d4 i5 m1_0 m1_1 m1_2 => K .nrm (f65s3 d4 i5 m1_0 m1_1 m1_2)) :=
  viaSeq (fun k => spec_l1Factors.Z12 N d4 i5 m1_0 m1_1 m1_2 k) (by kernel_rfl) (by kernel_rfl) (f65t12 N d4 i5 m1_0 m1_1 m1_2 (seqK (fun σ => f65i N f65c38 .n σ (joinK (some f65l3) K)) (joinK (some f65l3) K))) (funext fun d4 => funext fun i5 => funext fun m1_0 => funext fun m1_1 => funext fun m1_2 => f65t38 N d4 i5 m1_0 m1_1 m1_2 K) (by kernel_rfl) (by kernel_rfl)
noncomputable def f65c9 := codeAt (bodyOf Try.f65) [1,1,0,1,0,0]
noncomputable def f65p9 : Plan := .mk (some f65l3) none .n f65p11
theorem f65t9 {ρ : Type} (N : Nat) (d4 : List Int) (i5 : Int) (m1_0 : Int) (m1_1 : Int) (m1_2 : List Int) (K : KT ρ) : f65i N f65c9 f65p9 (f65s3 d4 i5 m1_0 m1_1 m1_2) (joinK (some f65l3) K) =
  spec_l1Factors.Z9 N d4 i5 m1_0 m1_1 m1_2 (fun d4 i5 m1_0 m1_1 m1_2 => K .nrm (f65s3 d4 i5 m1_0 m1_1 m1_2)) (fun d4 m1_0 m1_1 m1_2 => K (.exit 0) (f65s2 d4 m1_0 m1_1 m1_2)) :=
  viaSeq (fun k => spec_l1Factors.Z10 N d4 i5 m1_0 m1_1 m1_2 k (fun d4 m1_0 m1_1 m1_2 => K (.exit 0) (f65s2 d4 m1_0 m1_1 m1_2))) (by kernel_rfl) (by kernel_rfl) (f65t10 N d4 i5 m1_0 m1_1 m1_2 (seqK (fun σ => f65i N f65c11 f65p11 σ (joinK (some f65l3) K)) (joinK (some f65l3) K))) (funext fun d4 => funext fun i5 => funext fun m1_0 => funext fun m1_1 => funext fun m1_2 => f65t11 N d4 i5 m1_0 m1_1 m1_2 K) (by kernel_rfl) (by kernel_rfl)
noncomputable def f65c8 := codeAt (bodyOf Try.f65) [1,1,0,1,0]
noncomputable def f65p8 : Plan := .mk none (some f65l3) f65p9 .n
noncomputable abbrev f65w8 {ρ : Type} (N : Nat) (M : Nat) (σ : St) (K : KT ρ) : Option ρ := loopC (fun σ K => f65i N f65c9 f65p9 σ K) f65l3 M σ K
theorem f65t8L {ρ : Type} (N : Nat) (K : KT ρ) : ∀ (M : Nat) (d4 : List Int) (i5 : Int) (m1_0 : Int) (m1_1 : Int) (m1_2 : List Int), f65w8 N M (f65s3 d4 i5 m1_0 m1_1 m1_2) K =
  spec_l1Factors.Z8L N (fun d4 m1_0 m1_1 m1_2 => K (.exit 0) (f65s2 d4 m1_0 m1_1 m1_2)) M d4 i5 m1_0 m1_1 m1_2
  | 0, _, _, _, _, _ => rfl
  | M + 1, d4, i5, m1_0, m1_1, m1_2 => viaRound (fun k => spec_l1Factors.Z9 N d4 i5 m1_0 m1_1 m1_2 k (fun d4 m1_0 m1_1 m1_2 => K (.exit 0) (f65s2 d4 m1_0 m1_1 m1_2))) (f65t9 N d4 i5 m1_0 m1_1 m1_2 (seqK (fun σ => f65w8 N M σ K) K)) (funext fun d4 => funext fun i5 => funext fun m1_0 => funext fun m1_1 => funext fun m1_2 => f65t8L N K M d4 i5 m1_0 m1_1 m1_2) (by kernel_rfl) (by kernel_rfl)
theorem f65t8 {ρ : Type} (N : Nat) (d4 : List Int) (i5 : Int) (m1_0 : Int) (m1_1 : Int) (m1_2 : List Int) (K : KT ρ) : f65i N f65c8 f65p8 (f65s3 d4 i5 m1_0 m1_1 m1_2) (joinK (some f65l2) K) =
  spec_l1Factors.Z8 N d4 i5 m1_0 m1_1 m1_2 (fun d4 m1_0 m1_1 m1_2 => K (.exit 0) (f65s2 d4 m1_0 m1_1 m1_2)) :=
  viaLoop (by kernel_rfl) (by kernel_rfl) (σ' := f65s3 d4 i5 m1_0 m1_1 m1_2) (by kernel_rfl) (f65t8L N (joinK (some f65l2) K) N d4 i5 m1_0 m1_1 m1_2) (by kernel_rfl)
noncomputable def f65c7 := codeAt (bodyOf Try.f65) [1,1,0,1]
noncomputable def f65p7 : Plan := .mk (some f65l2) none f65p8 .n
theorem f65t7 {ρ : Type} (N : Nat) (d4 : List Int) (i5 : Int) (m1_0 : Int) (m1_1 : Int) (m1_2 : List Int) (K : KT ρ) : f65i N f65c7 f65p7 (f65s3 d4 i5 m1_0 m1_1 m1_2) (joinK (some f65l2) K) =
  spec_l1Factors.Z7 N d4 i5 m1_0 m1_1 m1_2 (fun d4 m1_0 m1_1 m1_2 => K .nrm (f65s2 d4 m1_0 m1_1 m1_2)) :=
  viaBlock (by kernel_rfl) (by kernel_rfl) (f65t8 N d4 i5 m1_0 m1_1 m1_2 (blockK 0 (joinK (some f65l2) K))) (by kernel_rfl)
noncomputable def f65c5 := codeAt (bodyOf Try.f65) [1,1,0]
noncomputable def f65p5 : Plan := .mk (some f65l3) none .n f65p7
theorem f65t5 {ρ : Type} (N : Nat) (d4 : List Int) (m1_0 : Int) (m1_1 : Int) (m1_2 : List Int) (K : KT ρ) : f65i N f65c5 f65p5 (f65s2 d4 m1_0 m1_1 m1_2) (joinK (some f65l2) K) =
  spec_l1Factors.Z5 N d4 m1_0 m1_1 m1_2 (fun d4 m1_0 m1_1 m1_2 => K .nrm (f65s2 d4 m1_0 m1_1 m1_2)) :=
  viaSeq (fun k => spec_l1Factors.Z6 N d4 m1_0 m1_1 m1_2 k) (by kernel_rfl) (by kernel_rfl) (f65t6 N d4 m1_0 m1_1 m1_2 (seqK (fun σ => f65i N f65c7 f65p7 σ (joinK (some f65l2) K)) (joinK (some f65l2) K))) (funext fun d4 => funext fun i5 => funext fun m1_0 => funext fun m1_1 => funext fun m1_2 => f65t7 N d4 i5 m1_0 m1_1 m1_2 K) (by kernel_rfl) (by kernel_rfl)
noncomputable def f65c41 := codeAt (bodyOf Try.f65) [1,1,1,0,0]
theorem f65t41 {ρ : Type} (N : Nat) (d4 : List Int) (m1_0 : Int) (m1_1 : Int) (m1_2 : List Int) (K : KT ρ) : f65i N f65c41 .n (f65s2 d4 m1_0 m1_1 m1_2) (joinK (some f65l10) K) =
  spec_l1Factors.Z41 N d4 m1_0 m1_1 m1_2 (fun d4 i12 m1_0 m1_1 m1_2 => K .nrm (f65s10 d4 i12 m1_0 m1_1 m1_2)) := by kernel_rfl
noncomputable def f65c45 := codeAt (bodyOf Try.f65) [1,1,1,0,1,0,0,0]
theorem f65t45 {ρ : Type} (N : Nat) (d4 : List Int) (i12 : Int) (m1_0 : Int) (m1_1 : Int) (m1_2 : List Int) (K : KT ρ) : f65i N f65c45 .n (f65s10 d4 i12 m1_0 m1_1 m1_2) (joinK (some f65l10) K) =
  spec_l1Factors.Z45 N d4 i12 m1_0 m1_1 m1_2 (fun d4 i12 m1_0 m1_1 m1_2 => K .nrm (f65s10 d4 i12 m1_0 m1_1 m1_2)) (fun d4 => K (.exit 8) (f65s12 d4)) := by kernel_rfl
noncomputable def f65c49 := codeAt (bodyOf Try.f65) [1,1,1,0,1,0,0,1,0,0,0]
theorem f65t49 {ρ : Type} (N : Nat) (d4 : List Int) (i12 : Int) (m1_0 : Int) (m1_1 : Int) (m1_2 : List Int) (K : KT ρ) : f65i N f65c49 .n (f65s10 d4 i12 m1_0 m1_1 m1_2) (joinK (some f65l11) K) =
  spec_l1Factors.Z49 N d4 i12 m1_0 m1_1 m1_2 (fun d4 i12 j13 m1_0 m1_1 m1_2 => K .nrm (f65s11 d4 i12 j13 m1_0 m1_1 m1_2)) := by kernel_rfl
noncomputable def f65c52 := codeAt (bodyOf Try.f65) [1,1,1,0,1,0,0,1,0,0,1,0,0]
theorem f65t52 {ρ : Type} (N : Nat) (d4 : List Int) (i12 : Int) (j13 : Int) (m1_0 : Int) (m1_1 : Int) (m1_2 : List Int) (K : KT ρ) : f65i N f65c52 .n (f65s11 d4 i12 j13 m1_0 m1_1 m1_2) (joinK (some f65l11) K) =
  spec_l1Factors.Z52 N d4 i12 j13 m1_0 m1_1 m1_2 (fun d4 i12 j13 m1_0 m1_1 m1_2 => K .nrm (f65s11 d4 i12 j13 m1_0 m1_1 m1_2)) (fun d4 i12 m1_0 m1_1 m1_2 => K (.exit 10) (f65s10 d4 i12 m1_0 m1_1 m1_2)) (fun t2 t3 => K .ret (f65s13 t2 t3)) := by kernel_rfl
noncomputable def f65c51 := codeAt (bodyOf Try.f65) [1,1,1,0,1,0,0,1,0,0,1,0]
noncomputable def f65p51 : Plan := .mk none (some f65l11) .n .n
noncomputable abbrev f65w51 {ρ : Type} (N : Nat) (M : Nat) (σ : St) (K : KT ρ) : Option ρ := loopC (fun σ K => f65i N f65c52 .n σ K) f65l11 M σ K
theorem f65t51L {ρ : Type} (N : Nat) (K : KT ρ) : ∀ (M : Nat) (d4 : List Int) (i12 : Int) (j13 : Int) (m1_0 : Int) (m1_1 : Int) (m1_2 : List Int), f65w51 N M (f65s11 d4 i12 j13 m1_0 m1_1 m1_2) K =
  spec_l1Factors.Z51L N (fun d4 i12 m1_0 m1_1 m1_2 => K (.exit 10) (f65s10 d4 i12 m1_0 m1_1 m1_2)) (fun t2 t3 => K .ret (f65s13 t2 t3)) M d4 i12 j13 m1_0 m1_1 m1_2
  | 0, _, _, _, _, _, _ => rfl
  | M + 1, d4, i12, j13, m1_0, m1_1, m1_2 => viaRound (fun k => spec_l1Factors.Z52 N d4 i12 j13 m1_0 m1_1 m1_2 k (fun d4 i12 m1_0 m1_1 m1_2 => K (.exit 10) (f65s10 d4 i12 m1_0 m1_1 m1_2)) (fun t2 t3 => K .ret (f65s13 t2 t3))) (f65t52 N d4 i12 j13 m1_0 m1_1 m1_2 (seqK (fun σ => f65w51 N M σ K) K)) (funext fun d4 => funext fun i12 => funext fun j13 => funext fun m1_0 => funext fun m1_1 => funext fun m1_2 => f65t51L N K M d4 i12 j13 m1_0 m1_1 m1_2) (by kernel_rfl) (by kernel_rfl)
theorem f65t51 {ρ : Type} (N : Nat) (d4 : List Int) (i12 : Int) (j13 : Int) (m1_0 : Int) (m1_1 : Int) (m1_2 : List Int) (K : KT ρ) : f65i N f65c51 f65p51 (f65s11 d4 i12 j13 m1_0 m1_1 m1_2) (joinK (some f65l10) K) =
  spec_l1Factors.Z51 N d4 i12 j13 m1_0 m1_1 m1_2 (fun d4 i12 m1_0 m1_1 m1_2 => K (.exit 10) (f65s10 d4 i12 m1_0 m1_1 m1_2)) (fun t2 t3 => K .ret (f65s13 t2 t3)) :=
  viaLoop (by kernel_rfl) (by kernel_rfl) (σ' := f65s11 d4 i12 j13 m1_0 m1_1 m1_2) (by kernel_rfl) (f65t51L N (joinK (some f65l10) K) N d4 i12 j13 m1_0 m1_1 m1_2) (by kernel_rfl)
noncomputable def f65c50 := codeAt (bodyOf Try.f65) [1,1,1,0,1,0,0,1,0,0,1]
noncomputable def f65p50 : Plan := .mk (some f65l10) none f65p51 .n
theorem f65t50 {ρ : Type} (N : Nat) (d4 : List Int) (i12 : Int) (j13 : Int) (m1_0 : Int) (m1_1 : Int) (m1_2 : List Int) (K : KT ρ) : f65i N f65c50 f65p50 (f65s11 d4 i12 j13 m1_0 m1_1 m1_2) (joinK (some f65l10) K) =
  spec_l1Factors.Z50 N d4 i12 j13 m1_0 m1_1 m1_2 (fun d4 i12 m1_0 m1_1 m1_2 => K .nrm (f65s10 d4 i12 m1_0 m1_1 m1_2)) (fun t2 t3 => K .ret (f65s13 t2 t3)) :=
  viaBlock (by kernel_rfl) (by kernel_rfl) (f65t51 N d4 i12 j13 m1_0 m1_1 m1_2 (blockK 10 (joinK (some f65l10) K))) (by kernel_rfl)
noncomputable def f65c48 := codeAt (bodyOf Try.f65) [1,1,1,0,1,0,0,1,0,0]
noncomputable def f65p48 : Plan := .mk (some f65l11) none .n f65p50
theorem f65t48 {ρ : Type} (N : Nat) (d4 : List Int) (i12 : Int) (m1_0 : Int) (m1_1 : Int) (m1_2 : List Int) (K : KT ρ) : f65i N f65c48 f65p48 (f65s10 d4 i12 m1_0 m1_1 m1_2) (joinK (some f65l10) K) =
  spec_l1Factors.Z48 N d4 i12 m1_0 m1_1 m1_2 (fun d4 i12 m1_0 m1_1 m1_2 => K .nrm (f65s10 d4 i12 m1_0 m1_1 m1_2)) (fun t2 t3 => K .ret (f65s13 t2 t3)) :=
  viaSeq (fun k => spec_l1Factors.Z49 N d4 i12 m1_0 m1_1 m1_2 k) (by kernel_rfl) (by kernel_rfl) (f65t49 N d4 i12 m1_0 m1_1 m1_2 (seqK (fun σ => f65i N f65c50 f65p50 σ (joinK (some f65l10) K)) (joinK (some f65l10) K))) (funext fun d4 => funext fun i12 => funext fun j13 => funext fun m1_0 => funext fun m1_1 => funext fun m1_2 => f65t50 N d4 i12 j13 m1_0 m1_1 m1_2 K) (by kernel_rfl) (by kernel_rfl)
noncomputable def f65c47 := codeAt (bodyOf Try.f65) [1,1,1,0,1,0,0,1,0]
noncomputable def f65p47 : Plan := .mk (some f65l10) none f65p48 .n
theorem f65t47 {ρ : Type} (N : Nat) (d4 : List Int) (i12 : Int) (m1_0 : Int) (m1_1 : Int) (m1_2 : List Int) (K : KT ρ) : f65i N f65c47 f65p47 (f65s10 d4 i12 m1_0 m1_1 m1_2) (joinK (some f65l10) K) =
  spec_l1Factors.Z47 N d4 i12 m1_0 m1_1 m1_2 (fun d4 i12 m1_0 m1_1 m1_2 => K .nrm (f65s10 d4 i12 m1_0 m1_1 m1_2)) (fun t2 t3 => K .ret (f65s13 t2 t3)) :=
  viaBlock (by kernel_rfl) (by kernel_rfl) (f65t48 N d4 i12 m1_0 m1_1 m1_2 (blockK 9 (joinK (some f65l10) K))) (by kernel_rfl)
noncomputable def f65c53 := codeAt (bodyOf Try.f65) [1,1,1,0,1,0,0,1,1]
theorem f65t53 {ρ : Type} (N : Nat) (d4 : List Int) (i12 : Int) (m1_0 : Int) (m1_1 : Int) (m1_2 : List Int) (K : KT ρ) : f65i N f65c53 .n (f65s10 d4 i12 m1_0 m1_1 m1_2) (joinK (some f65l10) K) =
  spec_l1Factors.Z53 N d4 i12 m1_0 m1_1 m1_2 (fun d4 i12 m1_0 m1_1 m1_2 => K .nrm (f65s10 d4 i12 m1_0 m1_1 m1_2)) := by kernel_rfl
noncomputable def f65c46 := codeAt (bodyOf Try.f65) [1,1,1,0,1,0,0,1]
noncomputable def f65p46 : Plan := .mk (some f65l10) none f65p47 .n
theorem f65t46 {ρ : Type} (N : Nat) (d4 : List Int) (i12 : Int) (m1_0 : Int) (m1_1 : Int) (m1_2 : List Int) (K : KT ρ) : f65i N f65c46 f65p46 (f65s10 d4 i12 m1_0 m1_1 m1_2) (joinK (some f65l10) K) =
  spec_l1Factors.Z46 N d4 i12 m1_0 m1_1 m1_2 (fun d4 i12 m1_0 m1_1 m1_2 => K .nrm (f65s10 d4 i12 m1_0 m1_1 m1_2)) (fun t2 t3 => K .ret (f65s13 t2 t3)) :=
  viaSeq (fun k => spec_l1Factors.Z47 N d4 i12 m1_0 m1_1 m1_2 k (fun t2 t3 => K .ret (f65s13 t2 t3))) (by kernel_rfl) (by kernel_rfl) (f65t47 N d4 i12 m1_0 m1_1 m1_2 (seqK (fun σ => f65i N f65c53 .n σ (joinK (some f65l10) K)) (joinK (some f65l10) K))) (funext fun d4 => funext fun i12 => funext fun m1_0 => funext fun m1_1 => funext fun m1_2 => f65t53 N d4 i12 m1_0 m1_1 m1_2 K) (by kernel_rfl) (by kernel_rfl)
noncomputable def f65c44 := codeAt (bodyOf Try.f65) [1,1,1,0,1,0,0]
noncomputable def f65p44 : Plan := .mk (some f65l10) none .n f65p46
theorem f65t44 {ρ : Type} (N : Nat) (d4 : List Int) (i12 : Int) (m1_0 : Int) (m1_1 : Int) (m1_2 : List Int) (K : KT ρ) : f65i N f65c44 f65p44 (f65s10 d4 i12 m1_0 m1_1 m1_2) (joinK (some f65l10) K) =
  spec_l1Factors.Z44 N d4 i12 m1_0 m1_1 m1_2 (fun d4 i12 m1_0 m1_1 m1_2 => K .nrm (f65s10 d4 i12 m1_0 m1_1 m1_2)) (fun d4 => K (.exit 8) (f65s12 d4)) (fun t2 t3 => K .ret (f65s13 t2 t3)) :=
  viaSeq (fun k => spec_l1Factors.Z45 N d4 i12 m1_0 m1_1 m1_2 k (fun d4 => K (.exit 8) (f65s12 d4))) (by kernel_rfl) (by kernel_rfl) (f65t45 N d4 i12 m1_0 m1_1 m1_2 (seqK (fun σ => f65i N f65c46 f65p46 σ (joinK (some f65l10) K)) (joinK (some f65l10) K))) (funext fun d4 => funext fun i12 => funext fun m1_0 => funext fun m1_1 => funext fun m1_2 => f65t46 N d4 i12 m1_0 m1_1 m1_2 K) (by kernel_rfl) (by kernel_rfl)
noncomputable def f65c43 := codeAt (bodyOf Try.f65) [1,1,1,0,1,0]
noncomputable def f65p43 : Plan := .mk none (some f65l10) f65p44 .n
noncomputable abbrev f65w43 {ρ : Type} (N : Nat) (M : Nat) (σ : St) (K : KT ρ) : Option ρ := loopC (fun σ K => f65i N f65c44 f65p44 σ K) f65l10 M σ K
theorem f65t43L {ρ : Type} (N : Nat) (K : KT ρ) : ∀ (M : Nat) (d4 : List Int) (i12 : Int) (m1_0 : Int) (m1_1 : Int) (m1_2 : List Int), f65w43 N M (f65s10 d4 i12 m1_0 m1_1 m1_2) K =
  spec_l1Factors.Z43L N (fun d4 => K (.exit 8) (f65s12 d4)) (fun t2 t3 => K .ret (f65s13 t2 t3)) M d4 i12 m1_0 m1_1 m1_2
  | 0, _, _, _, _, _ => rfl
  | M + 1, d4, i12, m1_0, m1_1, m1_2 => viaRound (fun k => spec_l1Factors.Z44 N d4 i12 m1_0 m1_1 m1_2 k (fun d4 => K (.exit 8) (f65s12 d4)) (fun t2 t3 => K .ret (f65s13 t2 t3))) (f65t44 N d4 i12 m1_0 m1_1 m1_2 (seqK (fun σ => f65w43 N M σ K) K)) (funext fun d4 => funext fun i12 => funext fun m1_0 => funext fun m1_1 => funext fun m1_2 => f65t43L N K M d4 i12 m1_0 m1_1 m1_2) (by kernel_rfl) (by kernel_rfl)
theorem f65t43 {ρ : Type} (N : Nat) (d4 : List Int) (i12 : Int) (m1_0 : Int) (m1_1 : Int) (m1_2 : List Int) (K : KT ρ) : f65i N f65c43 f65p43 (f65s10 d4 i12 m1_0 m1_1 m1_2) (joinK (some f65l12) K) =
  spec_l1Factors.Z43 N d4 i12 m1_0 m1_1 m1_2 (fun d4 => K (.exit 8) (f65s12 d4)) (fun t2 t3 => K .ret (f65s13 t2 t3)) :=
  viaLoop (by kernel_rfl) (by kernel_rfl) (σ' := f65s10 d4 i12 m1_0 m1_1 m1_2) (by kernel_rfl) (f65t43L N (joinK (some f65l12) K) N d4 i12 m1_0 m1_1 m1_2) (by kernel_rfl)
noncomputable def f65c42 := codeAt (bodyOf Try.f65) [1,1,1,0,1]
noncomputable def f65p42 : Plan := .mk (some f65l12) none f65p43 .n
theorem f65t42 {ρ : Type} (N : Nat) (d4 : List Int) (i12 : Int) (m1_0 : Int) (m1_1 : Int) (m1_2 : List Int) (K : KT ρ) : f65i N f65c42 f65p42 (f65s10 d4 i12 m1_0 m1_1 m1_2) (joinK (some f65l12) K) =
  spec_l1Factors.Z42 N d4 i12 m1_0 m1_1 m1_2 (fun d4 => K .nrm (f65s12 d4)) (fun t2 t3 => K .ret (f65s13 t2 t3)) :=
  viaBlock (by kernel_rfl) (by kernel_rfl) (f65t43 N d4 i12 m1_0 m1_1 m1_2 (blockK 8 (joinK (some f65l12) K))) (by kernel_rfl)
noncomputable def f65c40 := codeAt (bodyOf Try.f65) [1,1,1,0]
noncomputable def f65p40 : Plan := .mk (some f65l10) none .n f65p42
theorem f65t40 {ρ : Type} (N : Nat) (d4 : List Int) (m1_0 : Int) (m1_1 : Int) (m1_2 : List Int) (K : KT ρ) : f65i N f65c40 f65p40 (f65s2 d4 m1_0 m1_1 m1_2) (joinK (some f65l12) K) =
  spec_l1Factors.Z40 N d4 m1_0 m1_1 m1_2 (fun d4 => K .nrm (f65s12 d4)) (fun t2 t3 => K .ret (f65s13 t2 t3)) :=
  viaSeq (fun k => spec_l1Factors.Z41 N d4 m1_0 m1_1 m1_2 k) (by kernel_rfl) (by kernel_rfl) (f65t41 N d4 m1_0 m1_1 m1_2 (seqK (fun σ => f65i N f65c42 f65p42 σ (joinK (some f65l12) K)) (joinK (some f65l12) K))) (funext fun d4 => funext fun i12 => funext fun m1_0 => funext fun m1_1 => funext fun m1_2 => f65t42 N d4 i12 m1_0 m1_1 m1_2 K) (by kernel_rfl) (by kernel_rfl)
noncomputable def f65c54 := codeAt (bodyOf Try.f65) [1,1,1,1]
theorem f65t54 {ρ : Type} (N : Nat) (d4 : List Int) (K : KT ρ) : f65i N f65c54 .n (f65s12 d4) (joinK (some f65lE) K) =
  spec_l1Factors.Z54 N d4 (fun t2 t3 => K .ret (f65s13 t2 t3)) := by kernel_rfl
noncomputable def f65c39 := codeAt (bodyOf Try.f65) [1,1,1]
noncomputable def f65p39 : Plan := .mk (some f65l12) none f65p40 .n
theorem f65t39 {ρ : Type} (N : Nat) (d4 : List Int) (m1_0 : Int) (m1_1 : Int) (m1_2 : List Int) (K : KT ρ) : f65i N f65c39 f65p39 (f65s2 d4 m1_0 m1_1 m1_2) (joinK (some f65lE) K) =
  spec_l1Factors.Z39 N d4 m1_0 m1_1 m1_2 (fun t2 t3 => K .ret (f65s13 t2 t3)) :=
  viaSeq (fun k => spec_l1Factors.Z40 N d4 m1_0 m1_1 m1_2 k (fun t2 t3 => K .ret (f65s13 t2 t3))) (by kernel_rfl) (by kernel_rfl) (f65t40 N d4 m1_0 m1_1 m1_2 (seqK (fun σ => f65i N f65c54 .n σ (joinK (some f65lE) K)) (joinK (some f65lE) K))) (funext fun d4 => f65t54 N d4 K) (by kernel_rfl) (by kernel_rfl)
noncomputable def f65c4 := codeAt (bodyOf Try.f65) [1,1]
noncomputable def f65p4 : Plan := .mk (some f65l2) none f65p5 f65p39
theorem f65t4 {ρ : Type} (N : Nat) (d4 : List Int) (m1_0 : Int) (m1_1 : Int) (m1_2 : List Int) (K : KT ρ) : f65i N f65c4 f65p4 (f65s2 d4 m1_0 m1_1 m1_2) (joinK (some f65lE) K) =
  spec_l1Factors.Z4 N d4 m1_0 m1_1 m1_2 (fun t2 t3 => K .ret (f65s13 t2 t3)) :=
  viaSeq (fun k => spec_l1Factors.Z5 N d4 m1_0 m1_1 m1_2 k) (by kernel_rfl) (by kernel_rfl) (f65t5 N d4 m1_0 m1_1 m1_2 (seqK (fun σ => f65i N f65c39 f65p39 σ (joinK (some f65lE) K)) (joinK (some f65lE) K))) (funext fun d4 => funext fun m1_0 => funext fun m1_1 => funext fun m1_2 => f65t39 N d4 m1_0 m1_1 m1_2 K) (by kernel_rfl) (by kernel_rfl)
noncomputable def f65c2 := codeAt (bodyOf Try.f65) [1]
noncomputable def f65p2 : Plan := .mk (some f65l2) none .n f65p4
theorem f65t2 {ρ : Type} (N : Nat) (m1_0 : Int) (m1_1 : Int) (m1_2 : List Int) (K : KT ρ) : f65i N f65c2 f65p2 (f65s1 m1_0 m1_1 m1_2) (joinK (some f65lE) K) =
  spec_l1Factors.Z2 N m1_0 m1_1 m1_2 (fun t2 t3 => K .ret (f65s13 t2 t3)) :=
  viaSeq (fun k => spec_l1Factors.Z3 N m1_0 m1_1 m1_2 k) (by kernel_rfl) (by kernel_rfl) (f65t3 N m1_0 m1_1 m1_2 (seqK (fun σ => f65i N f65c4 f65p4 σ (joinK (some f65lE) K)) (joinK (some f65lE) K))) (funext fun d4 => funext fun m1_0 => funext fun m1_1 => funext fun m1_2 => f65t4 N d4 m1_0 m1_1 m1_2 K) (by kernel_rfl) (by kernel_rfl)
noncomputable def f65c0 := codeAt (bodyOf Try.f65) []
noncomputable def f65p0 : Plan := .mk (some f65l1) none .n f65p2
theorem f65t0 {ρ : Type} (N : Nat) (m0 : Int × Int × List Int) (K : KT ρ) : f65i N f65c0 f65p0 (f65s0 m0) (joinK (some f65lE) K) =
  spec_l1Factors.Z0 N m0 (fun t2 t3 => K .ret (f65s13 t2 t3)) :=
  viaSeq (fun k => spec_l1Factors.Z1 N m0 k) (by kernel_rfl) (by kernel_rfl) (f65t1 N m0 (seqK (fun σ => f65i N f65c2 f65p2 σ (joinK (some f65lE) K)) (joinK (some f65lE) K))) (funext fun m1_0 => funext fun m1_1 => funext fun m1_2 => f65t2 N m1_0 m1_1 m1_2 K) (by kernel_rfl) (by kernel_rfl)
theorem f65m (N : Nat) (m0 : Int × Int × List Int) : f65i N f65c0 f65p0 (f65s0 m0) (joinK (some f65lE) (finK tab f65sig Try.f65.results.toList)) = spec_l1Factors.Z0 N m0 (fun t2 t3 => some ((), (t2, (t3, ())))) :=
  (f65t0 N m0 (finK tab f65sig Try.f65.results.toList)).trans (by kernel_rfl)
theorem f65ok (h : spec_l1Factors.Spec) : EntryOk Try.prog 65 e65 :=
  entry_of_code (sig := f65sig) (c := f65c0) (pl := f65p0) (je := (some f65lE)) (B := f65B) Try.func65 (by kernel_rfl) (by kernel_rfl) (by kernel_rfl) tabOk f65GOk (by kernel_rfl) (by kernel_rfl) (by kernel_rfl) (by kernel_rfl) fun X hb hp => by
    obtain ⟨m0, _⟩ := X
    obtain ⟨N, h⟩ := h m0 hb.1 hp
    exact ⟨N, (f65m N m0).trans (h N (Nat.le_refl N))⟩
theorem e65ok : EntryOk Try.prog 65 e65 := f65ok spec_l1Factors.ok
end Go.Fw
set_option linter.unusedVariables false
set_option linter.unusedSimpArgs false
set_option maxRecDepth 100000
namespace Go.Fw
open Go.Proofs
/-! ### loop.example/g03115/spec.MatrixOk -/
noncomputable def f31sig : Sig := ⟨[⟨.pair (.int .i64) (.pair (.int .i64) (.sl 3 (.int .i64))), true, false⟩], [⟨.bool, false, false⟩]⟩
noncomputable def e31 : Entry := ⟨f31sig, none, fun X => ((), ((spec_MatrixOk.g X.1), ()))⟩
noncomputable def f31G : Nat → Option Entry := addG (addG (fun _ => none) 64 e64) 65 e65
theorem f31GOk : GOk Try.prog f31G := ((GOk.nil).add e64ok (by kernel_rfl)).add e65ok (by kernel_rfl)
noncomputable def f31lE : Clean := ⟨[], [], [], [], []⟩
noncomputable def f31s0 (m0 : Int × Int × List Int) : St := initSt f31sig.ps (m0, ())
noncomputable def f31s1 (t2 : Bool) : St := stOf [(2, .c (.bool t2))] [] []
noncomputable def f31l1 : Clean := ⟨[2], [], [], [], []⟩
noncomputable def f31B : Nat → Option Clean := lookL [(1000000, f31l1)]
noncomputable abbrev f31i {ρ : Type} (N : Nat) (c : Code) (p : Plan) (σ : St) (K : KT ρ) : Option ρ := iCode f31G tab f31B N c p σ K
noncomputable def f31c0 := codeAt (bodyOf Try.f31) []
theorem f31t0 {ρ : Type} (N : Nat) (m0 : Int × Int × List Int) (K : KT ρ) : f31i N f31c0 .n (f31s0 m0) (joinK (some f31lE) K) =
  spec_MatrixOk.Z0 N m0 (fun t2 => K .ret (f31s1 t2)) := by kernel_rfl
theorem f31m (N : Nat) (m0 : Int × Int × List Int) : f31i N f31c0 .n (f31s0 m0) (joinK (some f31lE) (finK tab f31sig Try.f31.results.toList)) = spec_MatrixOk.Z0 N m0 (fun t2 => some ((), (t2, ()))) :=
  (f31t0 N m0 (finK tab f31sig Try.f31.results.toList)).trans (by kernel_rfl)
theorem f31ok (h : spec_MatrixOk.Spec) : EntryOk Try.prog 31 e31 :=
  entry_of_code (sig := f31sig) (c := f31c0) (pl := .n) (je := (some f31lE)) (B := f31B) Try.func31 (by kernel_rfl) (by kernel_rfl) (by kernel_rfl) tabOk f31GOk (by kernel_rfl) (by kernel_rfl) (by kernel_rfl) (by kernel_rfl) fun X hb hp => by
    obtain ⟨m0, _⟩ := X
    obtain ⟨N, h⟩ := h m0 hb.1
    exact ⟨N, (f31m N m0).trans (h N (Nat.le_refl N))⟩
theorem e31ok : EntryOk Try.prog 31 e31 := f31ok spec_MatrixOk.ok
end Go.Fw
set_option linter.unusedVariables false
set_option linter.unusedSimpArgs false
set_option maxRecDepth 100000
namespace Go.Fw
open Go.Proofs
/-! ### loop.example/g03115/spec.SymmetrizerOf -/
noncomputable def f35sig : Sig := ⟨[⟨.pair (.int .i64) (.pair (.int .i64) (.sl 3 (.int .i64))), true, false⟩], [⟨.sl 3 (.int .i64), false, false⟩]⟩
noncomputable def e35 : Entry := ⟨f35sig, none, fun X => ((), ((spec_SymmetrizerOf.g X.1), ()))⟩
noncomputable def f35G : Nat → Option Entry := addG (addG (fun _ => none) 31 e31) 65 e65
theorem f35GOk : GOk Try.prog f35G := ((GOk.nil).add e31ok (by kernel_rfl)).add e65ok (by kernel_rfl)
noncomputable def f35lE : Clean := ⟨[], [], [], [], []⟩
noncomputable def f35s0 (m0 : Int × Int × List Int) : St := initSt f35sig.ps (m0, ())
noncomputable def f35s1 (t2 : List Int) : St := stOf [(2, .c (.own 1000128))] [] [(1000128, (⟨3, .int .i64, t2, true, false⟩ : Row))]
noncomputable def f35l1 : Clean := ⟨[2], [], [⟨⟨false, 2, 0⟩, 30000000, 3, .int .i64, true⟩], [], [(⟨false, 2, 0⟩, 1000128)]⟩
noncomputable def f35B : Nat → Option Clean := lookL [(1000000, f35l1)]
noncomputable abbrev f35i {ρ : Type} (N : Nat) (c : Code) (p : Plan) (σ : St) (K : KT ρ) : Option ρ := iCode f35G tab f35B N c p σ K
noncomputable def f35c0 := codeAt (bodyOf Try.f35) []
theorem f35t0 {ρ : Type} (N : Nat) (m0 : Int × Int × List Int) (K : KT ρ) : f35i N f35c0 .n (f35s0 m0) (joinK (some f35lE) K) =
  spec_SymmetrizerOf.Z0 N m0 (fun t2 => K .ret (f35s1 t2)) := by kernel_rfl
theorem f35m (N : Nat) (m0 : Int × Int × List Int) : f35i N f35c0 .n (f35s0 m0) (joinK (some f35lE) (finK tab f35sig Try.f35.results.toList)) = spec_SymmetrizerOf.Z0 N m0 (fun t2 => some ((), (t2, ()))) :=
  (f35t0 N m0 (finK tab f35sig Try.f35.results.toList)).trans (by kernel_rfl)
theorem f35ok (h : spec_SymmetrizerOf.Spec) : EntryOk Try.prog 35 e35 :=
  entry_of_code (sig := f35sig) (c := f35c0) (pl := .n) (je := (some f35lE)) (B := f35B) Try.func35 (by kernel_rfl) (by kernel_rfl) (by kernel_rfl) tabOk f35GOk (by kernel_rfl) (by kernel_rfl) (by kernel_rfl) (by kernel_rfl) fun X hb hp => by
    obtain ⟨m0, _⟩ := X
    obtain ⟨N, h⟩ := h m0 hb.1
    exact ⟨N, (f35m N m0).trans (h N (Nat.le_refl N))⟩
theorem e35ok : EntryOk Try.prog 35 e35 := f35ok spec_SymmetrizerOf.ok
end Go.Fw
set_option linter.unusedVariables false
set_option linter.unusedSimpArgs false
set_option maxRecDepth 100000
namespace Go.Fw
open Go.Proofs
/-! ### loop.example/g03115/impl.within -/
noncomputable def f49sig : Sig := ⟨[⟨.int .i64, false, false⟩, ⟨.int .i64, false, false⟩, ⟨.int .i64, false, false⟩], [⟨.bool, false, false⟩]⟩
noncomputable def e49 : Entry := ⟨f49sig, none, fun X => ((), ((impl_within.g X.1 X.2.1 X.2.2.1), ()))⟩
noncomputable def f49G : Nat → Option Entry := (fun _ => none)
theorem f49GOk : GOk Try.prog f49G := GOk.nil
noncomputable def f49lE : Clean := ⟨[], [], [], [], []⟩
noncomputable def f49s0 (n0 : Int) (low1 : Int) (high2 : Int) : St := initSt f49sig.ps (n0, (low1, (high2, ())))
noncomputable def f49s1 (t6 : Bool) : St := stOf [(6, .c (.bool t6))] [] []
noncomputable def f49l1 : Clean := ⟨[6], [], [], [], []⟩
noncomputable def f49B : Nat → Option Clean := lookL [(1000000, f49l1)]
noncomputable abbrev f49i {ρ : Type} (N : Nat) (c : Code) (p : Plan) (σ : St) (K : KT ρ) : Option ρ := iCode f49G tab f49B N c p σ K
noncomputable def f49c0 := codeAt (bodyOf Try.f49) []
theorem f49t0 {ρ : Type} (N : Nat) (n0 : Int) (low1 : Int) (high2 : Int) (K : KT ρ) : f49i N f49c0 .n (f49s0 n0 low1 high2) (joinK (some f49lE) K) =
  impl_within.Z0 N n0 low1 high2 (fun t6 => K .ret (f49s1 t6)) := by kernel_rfl
theorem f49m (N : Nat) (n0 : Int) (low1 : Int) (high2 : Int) : f49i N f49c0 .n (f49s0 n0 low1 high2) (joinK (some f49lE) (finK tab f49sig Try.f49.results.toList)) = impl_within.Z0 N n0 low1 high2 (fun t6 => some ((), (t6, ()))) :=
  (f49t0 N n0 low1 high2 (finK tab f49sig Try.f49.results.toList)).trans (by kernel_rfl)
theorem f49ok (h : impl_within.Spec) : EntryOk Try.prog 49 e49 :=
  entry_of_code (sig := f49sig) (c := f49c0) (pl := .n) (je := (some f49lE)) (B := f49B) Try.func49 (by kernel_rfl) (by kernel_rfl) (by kernel_rfl) tabOk f49GOk (by kernel_rfl) (by kernel_rfl) (by kernel_rfl) (by kernel_rfl) fun X hb hp => by
    obtain ⟨n0, low1, high2, _⟩ := X
    obtain ⟨N, h⟩ := h n0 low1 high2
    exact ⟨N, (f49m N n0 low1 high2).trans (h N (Nat.le_refl N))⟩
theorem e49ok : EntryOk Try.prog 49 e49 := f49ok impl_within.ok
end Go.Fw
set_option linter.unusedVariables false
set_option linter.unusedSimpArgs false
set_option maxRecDepth 100000
namespace Go.Fw
open Go.Proofs
/-! ### loop.example/g03115/impl.shaped$1 -/
noncomputable def f88sig : Sig := ⟨[⟨.int .i64, false, false⟩], [⟨.bool, false, false⟩]⟩
noncomputable def e88 : Entry := ⟨f88sig, none, fun X => ((), ((impl_shaped_1.g X.1), ()))⟩
noncomputable def f88G : Nat → Option Entry := addG (fun _ => none) 49 e49
theorem f88GOk : GOk Try.prog f88G := (GOk.nil).add e49ok (by kernel_rfl)
noncomputable def f88lE : Clean := ⟨[], [], [], [], []⟩
noncomputable def f88s0 (x0 : Int) : St := initSt f88sig.ps (x0, ())
noncomputable def f88s1 (t2 : Bool) : St := stOf [(2, .c (.bool t2))] [] []
noncomputable def f88l1 : Clean := ⟨[2], [], [], [], []⟩
noncomputable def f88B : Nat → Option Clean := lookL [(1000000, f88l1)]
noncomputable abbrev f88i {ρ : Type} (N : Nat) (c : Code) (p : Plan) (σ : St) (K : KT ρ) : Option ρ := iCode f88G tab f88B N c p σ K
noncomputable def f88c0 := codeAt (bodyOf Try.f88) []
theorem f88t0 {ρ : Type} (N : Nat) (x0 : Int) (K : KT ρ) : f88i N f88c0 .n (f88s0 x0) (joinK (some f88lE) K) =
  impl_shaped_1.Z0 N x0 (fun t2 => K .ret (f88s1 t2)) := by kernel_rfl
theorem f88m (N : Nat) (x0 : Int) : f88i N f88c0 .n (f88s0 x0) (joinK (some f88lE) (finK tab f88sig Try.f88.results.toList)) = impl_shaped_1.Z0 N x0 (fun t2 => some ((), (t2, ()))) :=
  (f88t0 N x0 (finK tab f88sig Try.f88.results.toList)).trans (by kernel_rfl)
theorem f88ok (h : impl_shaped_1.Spec) : EntryOk Try.prog 88 e88 :=
  entry_of_code (sig := f88sig) (c := f88c0) (pl := .n) (je := (some f88lE)) (B := f88B) Try.func88 (by kernel_rfl) (by kernel_rfl) (by kernel_rfl) tabOk f88GOk (by kernel_rfl) (by kernel_rfl) (by kernel_rfl) (by kernel_rfl) fun X hb hp => by
    obtain ⟨x0, _⟩ := X
    obtain ⟨N, h⟩ := h x0
    exact ⟨N, (f88m N x0).trans (h N (Nat.le_refl N))⟩
theorem e88ok : EntryOk Try.prog 88 e88 := f88ok impl_shaped_1.ok
end Go.Fw
set_option linter.unusedVariables false
set_option linter.unusedSimpArgs false
set_option maxRecDepth 100000
namespace Go.Fw
open Go.Proofs
/-! ### slices.IndexFunc[[]int,int] -/
noncomputable def f90bsig : Sig := ⟨[⟨.sl 3 (.int .i64), false, false⟩, ⟨.fnc 88, false, false⟩], [⟨.int .i64, false, false⟩]⟩
noncomputable def e90b : Entry := ⟨f90bsig, none, fun X => ((), ((slices_IndexFunc_int_int_shaped.g X.1 X.2.1), ()))⟩
noncomputable def f90bG : Nat → Option Entry := addG (fun _ => none) 88 e88
theorem f90bGOk : GOk Try.prog f90bG := (GOk.nil).add e88ok (by kernel_rfl)
noncomputable def f90blE : Clean := ⟨[], [], [], [], []⟩
noncomputable def f90bs0 (s0 : List Int) (f1 : Unit) : St := initSt f90bsig.ps (s0, (f1, ()))
noncomputable def f90bs1 (s0 : List Int) : St := stOf [(0, .c (.sn 3 (.int .i64) s0 none)), (1, .c (.fn 88 []))] [] []
noncomputable def f90bl1 : Clean := ⟨[0, 1], [], [], [], []⟩
noncomputable def f90bs2 (s0 : List Int) (t7 : Int) (t8 : Int) : St := stOf [(0, .c (.sn 3 (.int .i64) s0 none)), (1, .c (.fn 88 [])), (7, .c (.int .i64 t7)), (8, .c (.int .i64 t8))] [] []
noncomputable def f90bl2 : Clean := ⟨[0, 1, 7, 8], [], [], [], []⟩
noncomputable def f90bs3  : St := stOf [] [] []
noncomputable def f90bl3 : Clean := ⟨[], [], [], [], []⟩
noncomputable def f90bs4 (t4 : Int) : St := stOf [(4, .c (.int .i64 t4))] [] []
noncomputable def f90bl4 : Clean := ⟨[4], [], [], [], []⟩
noncomputable def f90bB : Nat → Option Clean := lookL [(0, f90bl3), (1000000, f90bl4)]
noncomputable abbrev f90bi {ρ : Type} (N : Nat) (c : Code) (p : Plan) (σ : St) (K : KT ρ) : Option ρ := iCode f90bG tab f90bB N c p σ K
noncomputable def f90bc1 := codeAt (bodyOf Try.f90) [0]
theorem f90bt1 {ρ : Type} (N : Nat) (s0 : List Int) (f1 : Unit) (K : KT ρ) : f90bi N f90bc1 .n (f90bs0 s0 f1) (joinK (some f90bl1) K) =
  slices_IndexFunc_int_int_shaped.Z1 N s0 f1 (fun s0 => K .nrm (f90bs1 s0)) := by kernel_rfl
noncomputable def f90bc4 := codeAt (bodyOf Try.f90) [1,0,0]
theorem f90bt4 {ρ : Type} (N : Nat) (s0 : List Int) (K : KT ρ) : f90bi N f90bc4 .n (f90bs1 s0) (joinK (some f90bl2) K) =
  slices_IndexFunc_int_int_shaped.Z4 N s0 (fun s0 t7 t8 => K .nrm (f90bs2 s0 t7 t8)) := by kernel_rfl
noncomputable def f90bc7 := codeAt (bodyOf Try.f90) [1,0,1,0,0]
theorem f90bt7 {ρ : Type} (N : Nat) (s0 : List Int) (t7 : Int) (t8 : Int) (K : KT ρ) : f90bi N f90bc7 .n (f90bs2 s0 t7 t8) (joinK (some f90bl2) K) =
  slices_IndexFunc_int_int_shaped.Z7 N s0 t7 t8 (fun s0 t7 t8 => K .nrm (f90bs2 s0 t7 t8)) (K (.exit 0) f90bs3) (fun t4 => K .ret (f90bs4 t4)) := by kernel_rfl
noncomputable def f90bc6 := codeAt (bodyOf Try.f90) [1,0,1,0]
noncomputable def f90bp6 : Plan := .mk none (some f90bl2) .n .n
noncomputable abbrev f90bw6 {ρ : Type} (N : Nat) (M : Nat) (σ : St) (K : KT ρ) : Option ρ := loopC (fun σ K => f90bi N f90bc7 .n σ K) f90bl2 M σ K
theorem f90bt6L {ρ : Type} (N : Nat) (K : KT ρ) : ∀ (M : Nat) (s0 : List Int) (t7 : Int) (t8 : Int), f90bw6 N M (f90bs2 s0 t7 t8) K =
  slices_IndexFunc_int_int_shaped.Z6L N (K (.exit 0) f90bs3) (fun t4 => K .ret (f90bs4 t4)) M s0 t7 t8
  | 0, _, _, _ => rfl
  | M + 1, s0, t7, t8 => viaRound (fun k => slices_IndexFunc_int_int_shaped.Z7 N s0 t7 t8 k (K (.exit 0) f90bs3) (fun t4 => K .ret (f90bs4 t4))) (f90bt7 N s0 t7 t8 (seqK (fun σ => f90bw6 N M σ K) K)) (funext fun s0 => funext fun t7 => funext fun t8 => f90bt6L N K M s0 t7 t8) (by kernel_rfl) (by kernel_rfl)
theorem f90bt6 {ρ : Type} (N : Nat) (s0 : List Int) (t7 : Int) (t8 : Int) (K : KT ρ) : f90bi N f90bc6 f90bp6 (f90bs2 s0 t7 t8) (joinK (some f90bl3) K) =
  slices_IndexFunc_int_int_shaped.Z6 N s0 t7 t8 (K (.exit 0) f90bs3) (fun t4 => K .ret (f90bs4 t4)) :=
  viaLoop (by kernel_rfl) (by kernel_rfl) (σ' := f90bs2 s0 t7 t8) (by kernel_rfl) (f90bt6L N (joinK (some f90bl3) K) N s0 t7 t8) (by kernel_rfl)
noncomputable def f90bc5 := codeAt (bodyOf Try.f90) [1,0,1]
noncomputable def f90bp5 : Plan := .mk (some f90bl3) none f90bp6 .n
theorem f90bt5 {ρ : Type} (N : Nat) (s0 : List Int) (t7 : Int) (t8 : Int) (K : KT ρ) : f90bi N f90bc5 f90bp5 (f90bs2 s0 t7 t8) (joinK (some f90bl3) K) =
  slices_IndexFunc_int_int_shaped.Z5 N s0 t7 t8 (K .nrm f90bs3) (fun t4 => K .ret (f90bs4 t4)) :=
  viaBlock (by kernel_rfl) (by kernel_rfl) (f90bt6 N s0 t7 t8 (blockK 0 (joinK (some f90bl3) K))) (by kernel_rfl)
noncomputable def f90bc3 := codeAt (bodyOf Try.f90) [1,0]
noncomputable def f90bp3 : Plan := .mk (some f90bl2) none .n f90bp5
theorem f90bt3 {ρ : Type} (N : Nat) (s0 : List Int) (K : KT ρ) : f90bi N f90bc3 f90bp3 (f90bs1 s0) (joinK (some f90bl3) K) =
  slices_IndexFunc_int_int_shaped.Z3 N s0 (K .nrm f90bs3) (fun t4 => K .ret (f90bs4 t4)) :=
  viaSeq (fun k => slices_IndexFunc_int_int_shaped.Z4 N s0 k) (by kernel_rfl) (by kernel_rfl) (f90bt4 N s0 (seqK (fun σ => f90bi N f90bc5 f90bp5 σ (joinK (some f90bl3) K)) (joinK (some f90bl3) K))) (funext fun s0 => funext fun t7 => funext fun t8 => f90bt5 N s0 t7 t8 K) (by kernel_rfl) (by kernel_rfl)
noncomputable def f90bc8 := codeAt (bodyOf Try.f90) [1,1]
theorem f90bt8 {ρ : Type} (N : Nat)  (K : KT ρ) : f90bi N f90bc8 .n f90bs3 (joinK (some f90blE) K) =
  slices_IndexFunc_int_int_shaped.Z8 N (fun t4 => K .ret (f90bs4 t4)) := by kernel_rfl
noncomputable def f90bc2 := codeAt (bodyOf Try.f90) [1]
noncomputable def f90bp2 : Plan := .mk (some f90bl3) none f90bp3 .n
theorem f90bt2 {ρ : Type} (N : Nat) (s0 : List Int) (K : KT ρ) : f90bi N f90bc2 f90bp2 (f90bs1 s0) (joinK (some f90blE) K) =
  slices_IndexFunc_int_int_shaped.Z2 N s0 (fun t4 => K .ret (f90bs4 t4)) :=
  viaSeq (fun k => slices_IndexFunc_int_int_shaped.Z3 N s0 k (fun t4 => K .ret (f90bs4 t4))) (by kernel_rfl) (by kernel_rfl) (f90bt3 N s0 (seqK (fun σ => f90bi N f90bc8 .n σ (joinK (some f90blE) K)) (joinK (some f90blE) K))) (f90bt8 N K) (by kernel_rfl) (by kernel_rfl)
noncomputable def f90bc0 := codeAt (bodyOf Try.f90) []
noncomputable def f90bp0 : Plan := .mk (some f90bl1) none .n f90bp2
theorem f90bt0 {ρ : Type} (N : Nat) (s0 : List Int) (f1 : Unit) (K : KT ρ) : f90bi N f90bc0 f90bp0 (f90bs0 s0 f1) (joinK (some f90blE) K) =
  slices_IndexFunc_int_int_shaped.Z0 N s0 f1 (fun t4 => K .ret (f90bs4 t4)) :=
  viaSeq (fun k => slices_IndexFunc_int_int_shaped.Z1 N s0 f1 k) (by kernel_rfl) (by kernel_rfl) (f90bt1 N s0 f1 (seqK (fun σ => f90bi N f90bc2 f90bp2 σ (joinK (some f90blE) K)) (joinK (some f90blE) K))) (funext fun s0 => f90bt2 N s0 K) (by kernel_rfl) (by kernel_rfl)
theorem f90bm (N : Nat) (s0 : List Int) (f1 : Unit) : f90bi N f90bc0 f90bp0 (f90bs0 s0 f1) (joinK (some f90blE) (finK tab f90bsig Try.f90.results.toList)) = slices_IndexFunc_int_int_shaped.Z0 N s0 f1 (fun t4 => some ((), (t4, ()))) :=
  (f90bt0 N s0 f1 (finK tab f90bsig Try.f90.results.toList)).trans (by kernel_rfl)
theorem f90bok (h : slices_IndexFunc_int_int_shaped.Spec) : EntryOk Try.prog 90 e90b :=
  entry_of_code (sig := f90bsig) (c := f90bc0) (pl := f90bp0) (je := (some f90blE)) (B := f90bB) Try.func90 (by kernel_rfl) (by kernel_rfl) (by kernel_rfl) tabOk f90bGOk (by kernel_rfl) (by kernel_rfl) (by kernel_rfl) (by kernel_rfl) fun X hb hp => by
    obtain ⟨s0, f1, _⟩ := X
    obtain ⟨N, h⟩ := h s0 f1 hb.1
    exact ⟨N, (f90bm N s0 f1).trans (h N (Nat.le_refl N))⟩
theorem e90bok : EntryOk Try.prog 90 e90b := f90bok slices_IndexFunc_int_int_shaped.ok
end Go.Fw
set_option linter.unusedVariables false
set_option linter.unusedSimpArgs false
set_option maxRecDepth 100000
namespace Go.Fw
open Go.Proofs
/-! ### slices.ContainsFunc[[]int,int] -/
noncomputable def f73bsig : Sig := ⟨[⟨.sl 3 (.int .i64), false, false⟩, ⟨.fnc 88, false, false⟩], [⟨.bool, false, false⟩]⟩
noncomputable def e73b : Entry := ⟨f73bsig, none, fun X => ((), ((slices_ContainsFunc_int_int_shaped.g X.1 X.2.1), ()))⟩
noncomputable def f73bG : Nat → Option Entry := addG (fun _ => none) 90 e90b
theorem f73bGOk : GOk Try.prog f73bG := (GOk.nil).add e90bok (by kernel_rfl)
noncomputable def f73blE : Clean := ⟨[], [], [], [], []⟩
noncomputable def f73bs0 (s0 : List Int) (f1 : Unit) : St := initSt f73bsig.ps (s0, (f1, ()))
noncomputable def f73bs1 (t4 : Bool) : St := stOf [(4, .c (.bool t4))] [] []
noncomputable def f73bl1 : Clean := ⟨[4], [], [], [], []⟩
noncomputable def f73bB : Nat → Option Clean := lookL [(1000000, f73bl1)]
noncomputable abbrev f73bi {ρ : Type} (N : Nat) (c : Code) (p : Plan) (σ : St) (K : KT ρ) : Option ρ := iCode f73bG tab f73bB N c p σ K
noncomputable def f73bc0 := codeAt (bodyOf Try.f73) []
theorem f73bt0 {ρ : Type} (N : Nat) (s0 : List Int) (f1 : Unit) (K : KT ρ) : f73bi N f73bc0 .n (f73bs0 s0 f1) (joinK (some f73blE) K) =
  slices_ContainsFunc_int_int_shaped.Z0 N s0 f1 (fun t4 => K .ret (f73bs1 t4)) := by kernel_rfl
theorem f73bm (N : Nat) (s0 : List Int) (f1 : Unit) : f73bi N f73bc0 .n (f73bs0 s0 f1) (joinK (some f73blE) (finK tab f73bsig Try.f73.results.toList)) = slices_ContainsFunc_int_int_shaped.Z0 N s0 f1 (fun t4 => some ((), (t4, ()))) :=
  (f73bt0 N s0 f1 (finK tab f73bsig Try.f73.results.toList)).trans (by kernel_rfl)
theorem f73bok (h : slices_ContainsFunc_int_int_shaped.Spec) : EntryOk Try.prog 73 e73b :=
  entry_of_code (sig := f73bsig) (c := f73bc0) (pl := .n) (je := (some f73blE)) (B := f73bB) Try.func73 (by kernel_rfl) (by kernel_rfl) (by kernel_rfl) tabOk f73bGOk (by kernel_rfl) (by kernel_rfl) (by kernel_rfl) (by kernel_rfl) fun X hb hp => by
    obtain ⟨s0, f1, _⟩ := X
    obtain ⟨N, h⟩ := h s0 f1 hb.1
    exact ⟨N, (f73bm N s0 f1).trans (h N (Nat.le_refl N))⟩
theorem e73bok : EntryOk Try.prog 73 e73b := f73bok slices_ContainsFunc_int_int_shaped.ok
end Go.Fw
set_option linter.unusedVariables false
set_option linter.unusedSimpArgs false
set_option maxRecDepth 100000
namespace Go.Fw
open Go.Proofs
/-! ### loop.example/g03115/impl.shaped -/
noncomputable def f66sig : Sig := ⟨[⟨.pair (.int .i64) (.pair (.int .i64) (.sl 3 (.int .i64))), true, false⟩], [⟨.bool, false, false⟩]⟩
noncomputable def e66 : Entry := ⟨f66sig, none, fun X => ((), ((impl_shaped.g X.1), ()))⟩
noncomputable def f66G : Nat → Option Entry := addG (addG (fun _ => none) 49 e49) 73 e73b
theorem f66GOk : GOk Try.prog f66G := ((GOk.nil).add e49ok (by kernel_rfl)).add e73bok (by kernel_rfl)
noncomputable def f66lE : Clean := ⟨[], [], [], [], []⟩
noncomputable def f66s0 (m0 : Int × Int × List Int) : St := initSt f66sig.ps (m0, ())
noncomputable def f66s1 (t2 : Bool) : St := stOf [(2, .c (.bool t2))] [] []
noncomputable def f66l1 : Clean := ⟨[2], [], [], [], []⟩
noncomputable def f66B : Nat → Option Clean := lookL [(1000000, f66l1)]
noncomputable abbrev f66i {ρ : Type} (N : Nat) (c : Code) (p : Plan) (σ : St) (K : KT ρ) : Option ρ := iCode f66G tab f66B N c p σ K
noncomputable def f66c0 := codeAt (bodyOf Try.f66) []
theorem f66t0 {ρ : Type} (N : Nat) (m0 : Int × Int × List Int) (K : KT ρ) : f66i N f66c0 .n (f66s0 m0) (joinK (some f66lE) K) =
  impl_shaped.Z0 N m0 (fun t2 => K .ret (f66s1 t2)) := by kernel_rfl
theorem f66m (N : Nat) (m0 : Int × Int × List Int) : f66i N f66c0 .n (f66s0 m0) (joinK (some f66lE) (finK tab f66sig Try.f66.results.toList)) = impl_shaped.Z0 N m0 (fun t2 => some ((), (t2, ()))) :=
  (f66t0 N m0 (finK tab f66sig Try.f66.results.toList)).trans (by kernel_rfl)
theorem f66ok (h : impl_shaped.Spec) : EntryOk Try.prog 66 e66 :=
  entry_of_code (sig := f66sig) (c := f66c0) (pl := .n) (je := (some f66lE)) (B := f66B) Try.func66 (by kernel_rfl) (by kernel_rfl) (by kernel_rfl) tabOk f66GOk (by kernel_rfl) (by kernel_rfl) (by kernel_rfl) (by kernel_rfl) fun X hb hp => by
    obtain ⟨m0, _⟩ := X
    obtain ⟨N, h⟩ := h m0 hb.1
    exact ⟨N, (f66m N m0).trans (h N (Nat.le_refl N))⟩
theorem e66ok : EntryOk Try.prog 66 e66 := f66ok impl_shaped.ok
end Go.Fw
set_option linter.unusedVariables false
set_option linter.unusedSimpArgs false
set_option maxRecDepth 100000
namespace Go.Fw
open Go.Proofs
/-! ### (loop.example/g03115/impl.Matrix).at -/
noncomputable def f69sig : Sig := ⟨[⟨.pair (.int .i64) (.pair (.int .i64) (.sl 3 (.int .i64))), true, false⟩, ⟨.int .i64, false, false⟩, ⟨.int .i64, false, false⟩], [⟨.int .i64, false, false⟩]⟩
noncomputable def e69 : Entry := ⟨f69sig, (some fun X => impl_Matrix_at.P X.1 X.2.1 X.2.2.1), fun X => ((), ((impl_Matrix_at.g X.1 X.2.1 X.2.2.1), ()))⟩
noncomputable def f69G : Nat → Option Entry := (fun _ => none)
theorem f69GOk : GOk Try.prog f69G := GOk.nil
noncomputable def f69lE : Clean := ⟨[], [], [], [], []⟩
noncomputable def f69s0 (m0 : Int × Int × List Int) (i1 : Int) (j2 : Int) : St := initSt f69sig.ps (m0, (i1, (j2, ())))
noncomputable def f69s1 (t6 : Int) : St := stOf [(6, .c (.int .i64 t6))] [] []
noncomputable def f69l1 : Clean := ⟨[6], [], [], [], []⟩
noncomputable def f69B : Nat → Option Clean := lookL [(1000000, f69l1)]
noncomputable abbrev f69i {ρ : Type} (N : Nat) (c : Code) (p : Plan) (σ : St) (K : KT ρ) : Option ρ := iCode f69G tab f69B N c p σ K
noncomputable def f69c0 := codeAt (bodyOf Try.f69) []
theorem f69t0 {ρ : Type} (N : Nat) (m0 : Int × Int × List Int) (i1 : Int) (j2 : Int) (K : KT ρ) : f69i N f69c0 .n (f69s0 m0 i1 j2) (joinK (some f69lE) K) =
  impl_Matrix_at.Z0 N m0 i1 j2 (fun t6 => K .ret (f69s1 t6)) := by kernel_rfl
theorem f69m (N : Nat) (m0 : Int × Int × List Int) (i1 : Int) (j2 : Int) : f69i N f69c0 .n (f69s0 m0 i1 j2) (joinK (some f69lE) (finK tab f69sig Try.f69.results.toList)) = impl_Matrix_at.Z0 N m0 i1 j2 (fun t6 => some ((), (t6, ()))) :=
  (f69t0 N m0 i1 j2 (finK tab f69sig Try.f69.results.toList)).trans (by kernel_rfl)
theorem f69ok (h : impl_Matrix_at.Spec) : EntryOk Try.prog 69 e69 :=
  entry_of_code (sig := f69sig) (c := f69c0) (pl := .n) (je := (some f69lE)) (B := f69B) Try.func69 (by kernel_rfl) (by kernel_rfl) (by kernel_rfl) tabOk f69GOk (by kernel_rfl) (by kernel_rfl) (by kernel_rfl) (by kernel_rfl) fun X hb hp => by
    obtain ⟨m0, i1, j2, _⟩ := X
    obtain ⟨N, h⟩ := h m0 i1 j2 hb.1 hp
    exact ⟨N, (f69m N m0 i1 j2).trans (h N (Nat.le_refl N))⟩
theorem e69ok : EntryOk Try.prog 69 e69 := f69ok impl_Matrix_at.ok
end Go.Fw
set_option linter.unusedVariables false
set_option linter.unusedSimpArgs false
set_option maxRecDepth 100000
namespace Go.Fw
open Go.Proofs
/-! ### loop.example/g03115/impl.gcd -/
noncomputable def f89sig : Sig := ⟨[⟨.int .i64, false, false⟩, ⟨.int .i64, false, false⟩], [⟨.int .i64, false, false⟩]⟩
noncomputable def e89 : Entry := ⟨f89sig, (some fun X => impl_gcd.P X.1 X.2.1), fun X => ((), ((impl_gcd.g X.1 X.2.1), ()))⟩
noncomputable def f89G : Nat → Option Entry := (fun _ => none)
theorem f89GOk : GOk Try.prog f89G := GOk.nil
noncomputable def f89lE : Clean := ⟨[], [], [], [], []⟩
noncomputable def f89s0 (a0 : Int) (b1 : Int) : St := initSt f89sig.ps (a0, (b1, ()))
noncomputable def f89s1 (a0 : Int) (b1 : Int) : St := stOf [(0, .c (.int .i64 a0)), (1, .c (.int .i64 b1))] [] []
noncomputable def f89l1 : Clean := ⟨[0, 1], [], [], [], []⟩
noncomputable def f89s2 (a0 : Int) : St := stOf [(0, .c (.int .i64 a0))] [] []
noncomputable def f89l2 : Clean := ⟨[0], [], [], [], []⟩
noncomputable def f89s3 (t4 : Int) : St := stOf [(4, .c (.int .i64 t4))] [] []
noncomputable def f89l3 : Clean := ⟨[4], [], [], [], []⟩
noncomputable def f89B : Nat → Option Clean := lookL [(0, f89l2), (1000000, f89l3)]
noncomputable abbrev f89i {ρ : Type} (N : Nat) (c : Code) (p : Plan) (σ : St) (K : KT ρ) : Option ρ := iCode f89G tab f89B N c p σ K
noncomputable def f89c1 := codeAt (bodyOf Try.f89) [0]
theorem f89t1 {ρ : Type} (N : Nat) (a0 : Int) (b1 : Int) (K : KT ρ) : f89i N f89c1 .n (f89s0 a0 b1) (joinK (some f89l1) K) =
  impl_gcd.Z1 N a0 b1 (fun a0 b1 => K .nrm (f89s1 a0 b1)) := by kernel_rfl
noncomputable def f89c5 := codeAt (bodyOf Try.f89) [1,0,0,0]
theorem f89t5 {ρ : Type} (N : Nat) (a0 : Int) (b1 : Int) (K : KT ρ) : f89i N f89c5 .n (f89s1 a0 b1) (joinK (some f89l1) K) =
  impl_gcd.Z5 N a0 b1 (fun a0 b1 => K .nrm (f89s1 a0 b1)) (fun a0 => K (.exit 0) (f89s2 a0)) := by kernel_rfl
noncomputable def f89c4 := codeAt (bodyOf Try.f89) [1,0,0]
noncomputable def f89p4 : Plan := .mk none (some f89l1) .n .n
noncomputable abbrev f89w4 {ρ : Type} (N : Nat) (M : Nat) (σ : St) (K : KT ρ) : Option ρ := loopC (fun σ K => f89i N f89c5 .n σ K) f89l1 M σ K
theorem f89t4L {ρ : Type} (N : Nat) (K : KT ρ) : ∀ (M : Nat) (a0 : Int) (b1 : Int), f89w4 N M (f89s1 a0 b1) K =
  impl_gcd.Z4L N (fun a0 => K (.exit 0) (f89s2 a0)) M a0 b1
  | 0, _, _ => rfl
  | M + 1, a0, b1 => viaRound (fun k => impl_gcd.Z5 N a0 b1 k (fun a0 => K (.exit 0) (f89s2 a0))) (f89t5 N a0 b1 (seqK (fun σ => f89w4 N M σ K) K)) (funext fun a0 => funext fun b1 => f89t4L N K M a0 b1) (by kernel_rfl) (by kernel_rfl)
theorem f89t4 {ρ : Type} (N : Nat) (a0 : Int) (b1 : Int) (K : KT ρ) : f89i N f89c4 f89p4 (f89s1 a0 b1) (joinK (some f89l2) K) =
  impl_gcd.Z4 N a0 b1 (fun a0 => K (.exit 0) (f89s2 a0)) :=
  viaLoop (by kernel_rfl) (by kernel_rfl) (σ' := f89s1 a0 b1) (by kernel_rfl) (f89t4L N (joinK (some f89l2) K) N a0 b1) (by kernel_rfl)
noncomputable def f89c3 := codeAt (bodyOf Try.f89) [1,0]
noncomputable def f89p3 : Plan := .mk (some f89l2) none f89p4 .n
theorem f89t3 {ρ : Type} (N : Nat) (a0 : Int) (b1 : Int) (K : KT ρ) : f89i N f89c3 f89p3 (f89s1 a0 b1) (joinK (some f89l2) K) =
  impl_gcd.Z3 N a0 b1 (fun a0 => K .nrm (f89s2 a0)) :=
  viaBlock (by kernel_rfl) (by kernel_rfl) (f89t4 N a0 b1 (blockK 0 (joinK (some f89l2) K))) (by kernel_rfl)
noncomputable def f89c6 := codeAt (bodyOf Try.f89) [1,1]
theorem f89t6 {ρ : Type} (N : Nat) (a0 : Int) (K : KT ρ) : f89i N f89c6 .n (f89s2 a0) (joinK (some f89lE) K) =
  impl_gcd.Z6 N a0 (fun t4 => K .ret (f89s3 t4)) := by kernel_rfl
noncomputable def f89c2 := codeAt (bodyOf Try.f89) [1]
noncomputable def f89p2 : Plan := .mk (some f89l2) none f89p3 .n
theorem f89t2 {ρ : Type} (N : Nat) (a0 : Int) (b1 : Int) (K : KT ρ) : f89i N f89c2 f89p2 (f89s1 a0 b1) (joinK (some f89lE) K) =
  impl_gcd.Z2 N a0 b1 (fun t4 => K .ret (f89s3 t4)) :=
  viaSeq (fun k => impl_gcd.Z3 N a0 b1 k) (by kernel_rfl) (by kernel_rfl) (f89t3 N a0 b1 (seqK (fun σ => f89i N f89c6 .n σ (joinK (some f89lE) K)) (joinK (some f89lE) K))) (funext fun a0 => f89t6 N a0 K) (by kernel_rfl) (by kernel_rfl)
noncomputable def f89c0 := codeAt (bodyOf Try.f89) []
noncomputable def f89p0 : Plan := .mk (some f89l1) none .n f89p2
theorem f89t0 {ρ : Type} (N : Nat) (a0 : Int) (b1 : Int) (K : KT ρ) : f89i N f89c0 f89p0 (f89s0 a0 b1) (joinK (some f89lE) K) =
  impl_gcd.Z0 N a0 b1 (fun t4 => K .ret (f89s3 t4)) :=
  viaSeq (fun k => impl_gcd.Z1 N a0 b1 k) (by kernel_rfl) (by kernel_rfl) (f89t1 N a0 b1 (seqK (fun σ => f89i N f89c2 f89p2 σ (joinK (some f89lE) K)) (joinK (some f89lE) K))) (funext fun a0 => funext fun b1 => f89t2 N a0 b1 K) (by kernel_rfl) (by kernel_rfl)
theorem f89m (N : Nat) (a0 : Int) (b1 : Int) : f89i N f89c0 f89p0 (f89s0 a0 b1) (joinK (some f89lE) (finK tab f89sig Try.f89.results.toList)) = impl_gcd.Z0 N a0 b1 (fun t4 => some ((), (t4, ()))) :=
  (f89t0 N a0 b1 (finK tab f89sig Try.f89.results.toList)).trans (by kernel_rfl)
theorem f89ok (h : impl_gcd.Spec) : EntryOk Try.prog 89 e89 :=
  entry_of_code (sig := f89sig) (c := f89c0) (pl := f89p0) (je := (some f89lE)) (B := f89B) Try.func89 (by kernel_rfl) (by kernel_rfl) (by kernel_rfl) tabOk f89GOk (by kernel_rfl) (by kernel_rfl) (by kernel_rfl) (by kernel_rfl) fun X hb hp => by
    obtain ⟨a0, b1, _⟩ := X
    obtain ⟨N, h⟩ := h a0 b1 hp
    exact ⟨N, (f89m N a0 b1).trans (h N (Nat.le_refl N))⟩
theorem e89ok : EntryOk Try.prog 89 e89 := f89ok impl_gcd.ok
end Go.Fw
set_option linter.unusedVariables false
set_option linter.unusedSimpArgs false
set_option maxRecDepth 100000
namespace Go.Fw
open Go.Proofs
/-! ### loop.example/g03115/impl.factors -/
noncomputable def f67sig : Sig := ⟨[⟨.pair (.int .i64) (.pair (.int .i64) (.sl 3 (.int .i64))), true, false⟩], [⟨.sl 3 (.int .i64), false, true⟩]⟩
noncomputable def e67 : Entry := ⟨f67sig, (some fun X => impl_factors.P X.1), fun X => ((), ((impl_factors.g X.1), ()))⟩
noncomputable def f67G : Nat → Option Entry := addG (addG (fun _ => none) 69 e69) 89 e89
theorem f67GOk : GOk Try.prog f67G := ((GOk.nil).add e69ok (by kernel_rfl)).add e89ok (by kernel_rfl)
noncomputable def f67lE : Clean := ⟨[], [], [], [], []⟩
noncomputable def f67s0 (m0 : Int × Int × List Int) : St := initSt f67sig.ps (m0, ())
noncomputable def f67s1 (m1_0 : Int) (m1_1 : Int) (m1_2 : List Int) : St := stOf [(1, .c (.box 1 0))] [(1, (47, [.int .i64 m1_0, .int .i64 m1_1, .sn 3 (.int .i64) m1_2 none]))] []
noncomputable def f67l1 : Clean := ⟨[1], [1], [], [], []⟩
noncomputable def f67s2 (num3 : List Int) (den4 : List Int) (m1_0 : Int) (m1_1 : Int) (m1_2 : List Int) : St := stOf [(1, .c (.box 1 0)), (3, .c (.own 1000192)), (4, .c (.own 1000256))] [(1, (47, [.int .i64 m1_0, .int .i64 m1_1, .sn 3 (.int .i64) m1_2 none]))] [(1000192, (⟨3, .int .i64, num3, true, false⟩ : Row)), (1000256, (⟨3, .int .i64, den4, true, false⟩ : Row))]
noncomputable def f67l2 : Clean := ⟨[1, 3, 4], [1], [], [], [(⟨false, 3, 0⟩, 1000192), (⟨false, 4, 0⟩, 1000256)]⟩
noncomputable def f67s3 (num3 : List Int) (den4 : List Int) (out5 : List Int) (m1_0 : Int) (m1_1 : Int) (m1_2 : List Int) : St := stOf [(1, .c (.box 1 0)), (3, .c (.own 1000192)), (4, .c (.own 1000256)), (5, .c (.own 1000320))] [(1, (47, [.int .i64 m1_0, .int .i64 m1_1, .sn 3 (.int .i64) m1_2 none]))] [(1000192, (⟨3, .int .i64, num3, true, false⟩ : Row)), (1000256, (⟨3, .int .i64, den4, true, false⟩ : Row)), (1000320, (⟨3, .int .i64, out5, true, false⟩ : Row))]
noncomputable def f67l3 : Clean := ⟨[1, 3, 4, 5], [1], [], [], [(⟨false, 3, 0⟩, 1000192), (⟨false, 4, 0⟩, 1000256), (⟨false, 5, 0⟩, 1000320)]⟩
noncomputable def f67s4 (num3 : List Int) (den4 : List Int) (out5 : List Int) (t34 : Int) (t35 : Int) (m1_0 : Int) (m1_1 : Int) (m1_2 : List Int) : St := stOf [(1, .c (.box 1 0)), (3, .c (.own 1000192)), (4, .c (.own 1000256)), (5, .c (.own 1000320)), (34, .c (.int .i64 t34)), (35, .c (.int .i64 t35))] [(1, (47, [.int .i64 m1_0, .int .i64 m1_1, .sn 3 (.int .i64) m1_2 none]))] [(1000192, (⟨3, .int .i64, num3, true, false⟩ : Row)), (1000256, (⟨3, .int .i64, den4, true, false⟩ : Row)), (1000320, (⟨3, .int .i64, out5, true, false⟩ : Row))]
noncomputable def f67l4 : Clean := ⟨[1, 3, 4, 5, 34, 35], [1], [], [], [(⟨false, 3, 0⟩, 1000192), (⟨false, 4, 0⟩, 1000256), (⟨false, 5, 0⟩, 1000320)]⟩
noncomputable def f67s5 (num3 : List Int) (den4 : List Int) (out5 : List Int) (t34 : Int) (t35 : Int) (t36 : Bool) (m1_0 : Int) (m1_1 : Int) (m1_2 : List Int) : St := stOf [(1, .c (.box 1 0)), (3, .c (.own 1000192)), (4, .c (.own 1000256)), (5, .c (.own 1000320)), (34, .c (.int .i64 t34)), (35, .c (.int .i64 t35)), (36, .c (.bool t36))] [(1, (47, [.int .i64 m1_0, .int .i64 m1_1, .sn 3 (.int .i64) m1_2 none]))] [(1000192, (⟨3, .int .i64, num3, true, false⟩ : Row)), (1000256, (⟨3, .int .i64, den4, true, false⟩ : Row)), (1000320, (⟨3, .int .i64, out5, true, false⟩ : Row))]
noncomputable def f67l5 : Clean := ⟨[1, 3, 4, 5, 34, 35, 36], [1], [], [], [(⟨false, 3, 0⟩, 1000192), (⟨false, 4, 0⟩, 1000256), (⟨false, 5, 0⟩, 1000320)]⟩
noncomputable def f67s6 (num3 : List Int) (den4 : List Int) (out5 : List Int) (s6 : Int) (t34 : Int) (t35 : Int) (m1_0 : Int) (m1_1 : Int) (m1_2 : List Int) : St := stOf [(1, .c (.box 1 0)), (3, .c (.own 1000192)), (4, .c (.own 1000256)), (5, .c (.own 1000320)), (6, .c (.int .i64 s6)), (34, .c (.int .i64 t34)), (35, .c (.int .i64 t35))] [(1, (47, [.int .i64 m1_0, .int .i64 m1_1, .sn 3 (.int .i64) m1_2 none]))] [(1000192, (⟨3, .int .i64, num3, true, false⟩ : Row)), (1000256, (⟨3, .int .i64, den4, true, false⟩ : Row)), (1000320, (⟨3, .int .i64, out5, true, false⟩ : Row))]
noncomputable def f67l6 : Clean := ⟨[1, 3, 4, 5, 6, 34, 35], [1], [], [], [(⟨false, 3, 0⟩, 1000192), (⟨false, 4, 0⟩, 1000256), (⟨false, 5, 0⟩, 1000320)]⟩
noncomputable def f67s7 (num3 : List Int) (den4 : List Int) (out5 : List Int) (piece7 : List Int) (t34 : Int) (t35 : Int) (m1_0 : Int) (m1_1 : Int) (m1_2 : List Int) : St := stOf [(1, .c (.box 1 0)), (3, .c (.own 1000192)), (4, .c (.own 1000256)), (5, .c (.own 1000320)), (7, .c (.own 1000448)), (34, .c (.int .i64 t34)), (35, .c (.int .i64 t35))] [(1, (47, [.int .i64 m1_0, .int .i64 m1_1, .sn 3 (.int .i64) m1_2 none]))] [(1000192, (⟨3, .int .i64, num3, true, false⟩ : Row)), (1000256, (⟨3, .int .i64, den4, true, false⟩ : Row)), (1000320, (⟨3, .int .i64, out5, true, false⟩ : Row)), (1000448, (⟨3, .int .i64, piece7, true, false⟩ : Row))]
noncomputable def f67l7 : Clean := ⟨[1, 3, 4, 5, 7, 34, 35], [1], [], [], [(⟨false, 3, 0⟩, 1000192), (⟨false, 4, 0⟩, 1000256), (⟨false, 5, 0⟩, 1000320), (⟨false, 7, 0⟩, 1000448)]⟩
noncomputable def f67s8 (num3 : List Int) (den4 : List Int) (out5 : List Int) (piece7 : List Int) (at8 : Int) (t34 : Int) (t35 : Int) (m1_0 : Int) (m1_1 : Int) (m1_2 : List Int) : St := stOf [(1, .c (.box 1 0)), (3, .c (.own 1000192)), (4, .c (.own 1000256)), (5, .c (.own 1000320)), (7, .c (.own 1000448)), (8, .c (.int .i64 at8)), (34, .c (.int .i64 t34)), (35, .c (.int .i64 t35))] [(1, (47, [.int .i64 m1_0, .int .i64 m1_1, .sn 3 (.int .i64) m1_2 none]))] [(1000192, (⟨3, .int .i64, num3, true, false⟩ : Row)), (1000256, (⟨3, .int .i64, den4, true, false⟩ : Row)), (1000320, (⟨3, .int .i64, out5, true, false⟩ : Row)), (1000448, (⟨3, .int .i64, piece7, true, false⟩ : Row))]
noncomputable def f67l8 : Clean := ⟨[1, 3, 4, 5, 7, 8, 34, 35], [1], [], [], [(⟨false, 3, 0⟩, 1000192), (⟨false, 4, 0⟩, 1000256), (⟨false, 5, 0⟩, 1000320), (⟨false, 7, 0⟩, 1000448)]⟩
noncomputable def f67s9 (num3 : List Int) (den4 : List Int) (out5 : List Int) (piece7 : List Int) (at8 : Int) (i9 : Int) (t34 : Int) (t35 : Int) (m1_0 : Int) (m1_1 : Int) (m1_2 : List Int) : St := stOf [(1, .c (.box 1 0)), (3, .c (.own 1000192)), (4, .c (.own 1000256)), (5, .c (.own 1000320)), (7, .c (.own 1000448)), (8, .c (.int .i64 at8)), (9, .c (.int .i64 i9)), (34, .c (.int .i64 t34)), (35, .c (.int .i64 t35))] [(1, (47, [.int .i64 m1_0, .int .i64 m1_1, .sn 3 (.int .i64) m1_2 none]))] [(1000192, (⟨3, .int .i64, num3, true, false⟩ : Row)), (1000256, (⟨3, .int .i64, den4, true, false⟩ : Row)), (1000320, (⟨3, .int .i64, out5, true, false⟩ : Row)), (1000448, (⟨3, .int .i64, piece7, true, false⟩ : Row))]
noncomputable def f67l9 : Clean := ⟨[1, 3, 4, 5, 7, 8, 9, 34, 35], [1], [], [], [(⟨false, 3, 0⟩, 1000192), (⟨false, 4, 0⟩, 1000256), (⟨false, 5, 0⟩, 1000320), (⟨false, 7, 0⟩, 1000448)]⟩
noncomputable def f67s10 (num3 : List Int) (den4 : List Int) (out5 : List Int) (piece7 : List Int) (at8 : Int) (i9 : Int) (t34 : Int) (t35 : Int) (t62 : Int) (t63 : Int) (m1_0 : Int) (m1_1 : Int) (m1_2 : List Int) : St := stOf [(1, .c (.box 1 0)), (3, .c (.own 1000192)), (4, .c (.own 1000256)), (5, .c (.own 1000320)), (7, .c (.own 1000448)), (8, .c (.int .i64 at8)), (9, .c (.int .i64 i9)), (34, .c (.int .i64 t34)), (35, .c (.int .i64 t35)), (62, .c (.int .i64 t62)), (63, .c (.int .i64 t63))] [(1, (47, [.int .i64 m1_0, .int .i64 m1_1, .sn 3 (.int .i64) m1_2 none]))] [(1000192, (⟨3, .int .i64, num3, true, false⟩ : Row)), (1000256, (⟨3, .int .i64, den4, true, false⟩ : Row)), (1000320, (⟨3, .int .i64, out5, true, false⟩ : Row)), (1000448, (⟨3, .int .i64, piece7, true, false⟩ : Row))]
noncomputable def f67l10 : Clean := ⟨[1, 3, 4, 5, 7, 8, 9, 34, 35, 62, 63], [1], [], [], [(⟨false, 3, 0⟩, 1000192), (⟨false, 4, 0⟩, 1000256), (⟨false, 5, 0⟩, 1000320), (⟨false, 7, 0⟩, 1000448)]⟩
noncomputable def f67s11 (num3 : List Int) (den4 : List Int) (out5 : List Int) (piece7 : List Int) (at8 : Int) (i9 : Int) (t34 : Int) (t35 : Int) (t62 : Int) (t63 : Int) (t64 : Bool) (m1_0 : Int) (m1_1 : Int) (m1_2 : List Int) : St := stOf [(1, .c (.box 1 0)), (3, .c (.own 1000192)), (4, .c (.own 1000256)), (5, .c (.own 1000320)), (7, .c (.own 1000448)), (8, .c (.int .i64 at8)), (9, .c (.int .i64 i9)), (34, .c (.int .i64 t34)), (35, .c (.int .i64 t35)), (62, .c (.int .i64 t62)), (63, .c (.int .i64 t63)), (64, .c (.bool t64))] [(1, (47, [.int .i64 m1_0, .int .i64 m1_1, .sn 3 (.int .i64) m1_2 none]))] [(1000192, (⟨3, .int .i64, num3, true, false⟩ : Row)), (1000256, (⟨3, .int .i64, den4, true, false⟩ : Row)), (1000320, (⟨3, .int .i64, out5, true, false⟩ : Row)), (1000448, (⟨3, .int .i64, piece7, true, false⟩ : Row))]
noncomputable def f67l11 : Clean := ⟨[1, 3, 4, 5, 7, 8, 9, 34, 35, 62, 63, 64], [1], [], [], [(⟨false, 3, 0⟩, 1000192), (⟨false, 4, 0⟩, 1000256), (⟨false, 5, 0⟩, 1000320), (⟨false, 7, 0⟩, 1000448)]⟩
noncomputable def f67s12 (num3 : List Int) (den4 : List Int) (out5 : List Int) (piece7 : List Int) (at8 : Int) (i9 : Int) (j10 : Int) (t34 : Int) (t35 : Int) (t62 : Int) (t63 : Int) (m1_0 : Int) (m1_1 : Int) (m1_2 : List Int) : St := stOf [(1, .c (.box 1 0)), (3, .c (.own 1000192)), (4, .c (.own 1000256)), (5, .c (.own 1000320)), (7, .c (.own 1000448)), (8, .c (.int .i64 at8)), (9, .c (.int .i64 i9)), (10, .c (.int .i64 j10)), (34, .c (.int .i64 t34)), (35, .c (.int .i64 t35)), (62, .c (.int .i64 t62)), (63, .c (.int .i64 t63))] [(1, (47, [.int .i64 m1_0, .int .i64 m1_1, .sn 3 (.int .i64) m1_2 none]))] [(1000192, (⟨3, .int .i64, num3, true, false⟩ : Row)), (1000256, (⟨3, .int .i64, den4, true, false⟩ : Row)), (1000320, (⟨3, .int .i64, out5, true, false⟩ : Row)), (1000448, (⟨3, .int .i64, piece7, true, false⟩ : Row))]
noncomputable def f67l12 : Clean := ⟨[1, 3, 4, 5, 7, 8, 9, 10, 34, 35, 62, 63], [1], [], [], [(⟨false, 3, 0⟩, 1000192), (⟨false, 4, 0⟩, 1000256), (⟨false, 5, 0⟩, 1000320), (⟨false, 7, 0⟩, 1000448)]⟩
noncomputable def f67s13 (num3 : List Int) (den4 : List Int) (out5 : List Int) (piece7 : List Int) (at8 : Int) (i9 : Int) (j10 : Int) (p11 : Int) (q12 : Int) (t34 : Int) (t35 : Int) (t62 : Int) (t63 : Int) (m1_0 : Int) (m1_1 : Int) (m1_2 : List Int) : St := stOf [(1, .c (.box 1 0)), (3, .c (.own 1000192)), (4, .c (.own 1000256)), (5, .c (.own 1000320)), (7, .c (.own 1000448)), (8, .c (.int .i64 at8)), (9, .c (.int .i64 i9)), (10, .c (.int .i64 j10)), (11, .c (.int .i64 p11)), (12, .c (.int .i64 q12)), (34, .c (.int .i64 t34)), (35, .c (.int .i64 t35)), (62, .c (.int .i64 t62)), (63, .c (.int .i64 t63))] [(1, (47, [.int .i64 m1_0, .int .i64 m1_1, .sn 3 (.int .i64) m1_2 none]))] [(1000192, (⟨3, .int .i64, num3, true, false⟩ : Row)), (1000256, (⟨3, .int .i64, den4, true, false⟩ : Row)), (1000320, (⟨3, .int .i64, out5, true, false⟩ : Row)), (1000448, (⟨3, .int .i64, piece7, true, false⟩ : Row))]
noncomputable def f67l13 : Clean := ⟨[1, 3, 4, 5, 7, 8, 9, 10, 11, 12, 34, 35, 62, 63], [1], [], [], [(⟨false, 3, 0⟩, 1000192), (⟨false, 4, 0⟩, 1000256), (⟨false, 5, 0⟩, 1000320), (⟨false, 7, 0⟩, 1000448)]⟩
noncomputable def f67s14 (num3 : List Int) (den4 : List Int) (out5 : List Int) (piece7 : List Int) (common16 : Int) (t34 : Int) (t35 : Int) (m1_0 : Int) (m1_1 : Int) (m1_2 : List Int) : St := stOf [(1, .c (.box 1 0)), (3, .c (.own 1000192)), (4, .c (.own 1000256)), (5, .c (.own 1000320)), (7, .c (.own 1000448)), (16, .c (.int .i64 common16)), (34, .c (.int .i64 t34)), (35, .c (.int .i64 t35))] [(1, (47, [.int .i64 m1_0, .int .i64 m1_1, .sn 3 (.int .i64) m1_2 none]))] [(1000192, (⟨3, .int .i64, num3, true, false⟩ : Row)), (1000256, (⟨3, .int .i64, den4, true, false⟩ : Row)), (1000320, (⟨3, .int .i64, out5, true, false⟩ : Row)), (1000448, (⟨3, .int .i64, piece7, true, false⟩ : Row))]
noncomputable def f67l14 : Clean := ⟨[1, 3, 4, 5, 7, 16, 34, 35], [1], [], [], [(⟨false, 3, 0⟩, 1000192), (⟨false, 4, 0⟩, 1000256), (⟨false, 5, 0⟩, 1000320), (⟨false, 7, 0⟩, 1000448)]⟩
noncomputable def f67s15 (num3 : List Int) (den4 : List Int) (out5 : List Int) (piece7 : List Int) (common16 : Int) (t34 : Int) (t35 : Int) (t159 : Int) (t160 : Int) (m1_0 : Int) (m1_1 : Int) (m1_2 : List Int) : St := stOf [(1, .c (.box 1 0)), (3, .c (.own 1000192)), (4, .c (.own 1000256)), (5, .c (.own 1000320)), (7, .c (.own 1000448)), (16, .c (.int .i64 common16)), (34, .c (.int .i64 t34)), (35, .c (.int .i64 t35)), (158, .c (.own 1000448)), (159, .c (.int .i64 t159)), (160, .c (.int .i64 t160))] [(1, (47, [.int .i64 m1_0, .int .i64 m1_1, .sn 3 (.int .i64) m1_2 none]))] [(1000192, (⟨3, .int .i64, num3, true, false⟩ : Row)), (1000256, (⟨3, .int .i64, den4, true, false⟩ : Row)), (1000320, (⟨3, .int .i64, out5, true, false⟩ : Row)), (1000448, (⟨3, .int .i64, piece7, true, false⟩ : Row))]
noncomputable def f67l15 : Clean := ⟨[1, 3, 4, 5, 7, 16, 34, 35, 158, 159, 160], [1], [], [], [(⟨false, 3, 0⟩, 1000192), (⟨false, 4, 0⟩, 1000256), (⟨false, 5, 0⟩, 1000320), (⟨false, 7, 0⟩, 1000448)]⟩
noncomputable def f67s16 (num3 : List Int) (den4 : List Int) (out5 : List Int) (piece7 : List Int) (common16 : Int) (g19 : Int) (t34 : Int) (t35 : Int) (m1_0 : Int) (m1_1 : Int) (m1_2 : List Int) : St := stOf [(1, .c (.box 1 0)), (3, .c (.own 1000192)), (4, .c (.own 1000256)), (5, .c (.own 1000320)), (7, .c (.own 1000448)), (16, .c (.int .i64 common16)), (19, .c (.int .i64 g19)), (34, .c (.int .i64 t34)), (35, .c (.int .i64 t35))] [(1, (47, [.int .i64 m1_0, .int .i64 m1_1, .sn 3 (.int .i64) m1_2 none]))] [(1000192, (⟨3, .int .i64, num3, true, false⟩ : Row)), (1000256, (⟨3, .int .i64, den4, true, false⟩ : Row)), (1000320, (⟨3, .int .i64, out5, true, false⟩ : Row)), (1000448, (⟨3, .int .i64, piece7, true, false⟩ : Row))]
noncomputable def f67l16 : Clean := ⟨[1, 3, 4, 5, 7, 16, 19, 34, 35], [1], [], [], [(⟨false, 3, 0⟩, 1000192), (⟨false, 4, 0⟩, 1000256), (⟨false, 5, 0⟩, 1000320), (⟨false, 7, 0⟩, 1000448)]⟩
noncomputable def f67s17 (num3 : List Int) (den4 : List Int) (out5 : List Int) (piece7 : List Int) (common16 : Int) (g19 : Int) (t34 : Int) (t35 : Int) (t179 : Int) (t180 : Int) (m1_0 : Int) (m1_1 : Int) (m1_2 : List Int) : St := stOf [(1, .c (.box 1 0)), (3, .c (.own 1000192)), (4, .c (.own 1000256)), (5, .c (.own 1000320)), (7, .c (.own 1000448)), (16, .c (.int .i64 common16)), (19, .c (.int .i64 g19)), (34, .c (.int .i64 t34)), (35, .c (.int .i64 t35)), (178, .c (.own 1000448)), (179, .c (.int .i64 t179)), (180, .c (.int .i64 t180))] [(1, (47, [.int .i64 m1_0, .int .i64 m1_1, .sn 3 (.int .i64) m1_2 none]))] [(1000192, (⟨3, .int .i64, num3, true, false⟩ : Row)), (1000256, (⟨3, .int .i64, den4, true, false⟩ : Row)), (1000320, (⟨3, .int .i64, out5, true, false⟩ : Row)), (1000448, (⟨3, .int .i64, piece7, true, false⟩ : Row))]
noncomputable def f67l17 : Clean := ⟨[1, 3, 4, 5, 7, 16, 19, 34, 35, 178, 179, 180], [1], [], [], [(⟨false, 3, 0⟩, 1000192), (⟨false, 4, 0⟩, 1000256), (⟨false, 5, 0⟩, 1000320), (⟨false, 7, 0⟩, 1000448)]⟩
noncomputable def f67s18 (num3 : List Int) (den4 : List Int) (out5 : List Int) (piece7 : List Int) (g19 : Int) (t34 : Int) (t35 : Int) (m1_0 : Int) (m1_1 : Int) (m1_2 : List Int) : St := stOf [(1, .c (.box 1 0)), (3, .c (.own 1000192)), (4, .c (.own 1000256)), (5, .c (.own 1000320)), (7, .c (.own 1000448)), (19, .c (.int .i64 g19)), (34, .c (.int .i64 t34)), (35, .c (.int .i64 t35))] [(1, (47, [.int .i64 m1_0, .int .i64 m1_1, .sn 3 (.int .i64) m1_2 none]))] [(1000192, (⟨3, .int .i64, num3, true, false⟩ : Row)), (1000256, (⟨3, .int .i64, den4, true, false⟩ : Row)), (1000320, (⟨3, .int .i64, out5, true, false⟩ : Row)), (1000448, (⟨3, .int .i64, piece7, true, false⟩ : Row))]
noncomputable def f67l18 : Clean := ⟨[1, 3, 4, 5, 7, 19, 34, 35], [1], [], [], [(⟨false, 3, 0⟩, 1000192), (⟨false, 4, 0⟩, 1000256), (⟨false, 5, 0⟩, 1000320), (⟨false, 7, 0⟩, 1000448)]⟩
noncomputable def f67s19 (num3 : List Int) (den4 : List Int) (out5 : List Int) (t205 : List Int) (g19 : Int) (t34 : Int) (t35 : Int) (t206 : Int) (t207 : Int) (m1_0 : Int) (m1_1 : Int) (m1_2 : List Int) : St := stOf [(1, .c (.box 1 0)), (3, .c (.own 1000192)), (4, .c (.own 1000256)), (5, .c (.own 1000320)), (19, .c (.int .i64 g19)), (34, .c (.int .i64 t34)), (35, .c (.int .i64 t35)), (205, .c (.own 1013120)), (206, .c (.int .i64 t206)), (207, .c (.int .i64 t207))] [(1, (47, [.int .i64 m1_0, .int .i64 m1_1, .sn 3 (.int .i64) m1_2 none]))] [(1000192, (⟨3, .int .i64, num3, true, false⟩ : Row)), (1000256, (⟨3, .int .i64, den4, true, false⟩ : Row)), (1000320, (⟨3, .int .i64, out5, true, false⟩ : Row)), (1013120, (⟨3, .int .i64, t205, true, false⟩ : Row))]
noncomputable def f67l19 : Clean := ⟨[1, 3, 4, 5, 19, 34, 35, 205, 206, 207], [1], [], [], [(⟨false, 3, 0⟩, 1000192), (⟨false, 4, 0⟩, 1000256), (⟨false, 5, 0⟩, 1000320), (⟨false, 205, 0⟩, 1013120)]⟩
noncomputable def f67s20 (out5 : List Int) : St := stOf [(5, .c (.own 1000320))] [] [(1000320, (⟨3, .int .i64, out5, true, false⟩ : Row))]
noncomputable def f67l20 : Clean := ⟨[5], [], [], [], [(⟨false, 5, 0⟩, 1000320)]⟩
noncomputable def f67s21 (t2 : List Int) : St := stOf [(2, .c (.own 1001000128))] [] [(1001000128, (⟨3, .int .i64, t2, true, true⟩ : Row))]
noncomputable def f67l21 : Clean := ⟨[2], [], [⟨⟨false, 2, 0⟩, 30000000, 3, .int .i64, true⟩], [], [(⟨false, 2, 0⟩, 1001000128)]⟩
noncomputable def f67B : Nat → Option Clean := lookL [(5, f67l10), (4, f67l8), (3, f67l8), (2, f67l7), (6, f67l14), (8, f67l18), (10, f67l4), (1, f67l4), (0, f67l20), (1000000, f67l21)]
noncomputable abbrev f67i {ρ : Type} (N : Nat) (c : Code) (p : Plan) (σ : St) (K : KT ρ) : Option ρ := iCode f67G tab f67B N c p σ K
noncomputable def f67c1 := codeAt (bodyOf Try.f67) [0]
theorem f67t1 {ρ : Type} (N : Nat) (m0 : Int × Int × List Int) (K : KT ρ) : f67i N f67c1 .n (f67s0 m0) (joinK (some f67l1) K) =
  impl_factors.Z1 N m0 (fun m1_0 m1_1 m1_2 => K .nrm (f67s1 m1_0 m1_1 m1_2)) := by kernel_rfl
noncomputable def f67c3 := codeAt (bodyOf Try.f67) [1,0]
theorem f67t3 {ρ : Type} (N : Nat) (m1_0 : Int) (m1_1 : Int) (m1_2 : List Int) (K : KT ρ) : f67i N f67c3 .n (f67s1 m1_0 m1_1 m1_2) (joinK (some f67l2) K) =
  impl_factors.Z3 N m1_0 m1_1 m1_2 (fun num3 den4 m1_0 m1_1 m1_2 => K .nrm (f67s2 num3 den4 m1_0 m1_1 m1_2)) := by kernel_rfl
noncomputable def f67c5 := codeAt (bodyOf Try.f67) [1,1,0]
theorem f67t5 {ρ : Type} (N : Nat) (num3 : List Int) (den4 : List Int) (m1_0 : Int) (m1_1 : Int) (m1_2 : List Int) (K : KT ρ) : f67i N f67c5 .n (f67s2 num3 den4 m1_0 m1_1 m1_2) (joinK (some f67l3) K) =
  impl_factors.Z5 N num3 den4 m1_0 m1_1 m1_2 (fun num3 den4 out5 m1_0 m1_1 m1_2 => K .nrm (f67s3 num3 den4 out5 m1_0 m1_1 m1_2)) := by kernel_rfl
noncomputable def f67c8 := codeAt (bodyOf Try.f67) [1,1,1,0,0]
theorem f67t8 {ρ : Type} (N : Nat) (num3 : List Int) (den4 : List Int) (out5 : List Int) (m1_0 : Int) (m1_1 : Int) (m1_2 : List Int) (K : KT ρ) : f67i N f67c8 .n (f67s3 num3 den4 out5 m1_0 m1_1 m1_2) (joinK (some f67l4) K) =
  impl_factors.Z8 N num3 den4 out5 m1_0 m1_1 m1_2 (fun num3 den4 out5 t34 t35 m1_0 m1_1 m1_2 => K .nrm (f67s4 num3 den4 out5 t34 t35 m1_0 m1_1 m1_2)) := by kernel_rfl
noncomputable def f67c12 := codeAt (bodyOf Try.f67) [1,1,1,0,1,0,0,0]
theorem f67t12 {ρ : Type} (N : Nat) (num3 : List Int) (den4 : List Int) (out5 : List Int) (t34 : Int) (t35 : Int) (m1_0 : Int) (m1_1 : Int) (m1_2 : List Int) (K : KT ρ) : f67i N f67c12 .n (f67s4 num3 den4 out5 t34 t35 m1_0 m1_1 m1_2) (joinK (some f67l5) K) =
  impl_factors.Z12 N num3 den4 out5 t34 t35 m1_0 m1_1 m1_2 (fun num3 den4 out5 t34 t35 t36 m1_0 m1_1 m1_2 => K .nrm (f67s5 num3 den4 out5 t34 t35 t36 m1_0 m1_1 m1_2)) := by kernel_rfl
noncomputable def f67c14 := codeAt (bodyOf Try.f67) [1,1,1,0,1,0,0,1,0]
theorem f67t14 {ρ : Type} (N : Nat) (num3 : List Int) (den4 : List Int) (out5 : List Int) (t34 : Int) (t35 : Int) (t36 : Bool) (m1_0 : Int) (m1_1 : Int) (m1_2 : List Int) (K : KT ρ) : f67i N f67c14 .n (f67s5 num3 den4 out5 t34 t35 t36 m1_0 m1_1 m1_2) (joinK (some f67l4) K) =
  impl_factors.Z14 N num3 den4 out5 t34 t35 t36 m1_0 m1_1 m1_2 (fun num3 den4 out5 t34 t35 m1_0 m1_1 m1_2 => K .nrm (f67s4 num3 den4 out5 t34 t35 m1_0 m1_1 m1_2)) (fun out5 => K (.exit 0) (f67s20 out5)) := by kernel_rfl
noncomputable def f67c18 := codeAt (bodyOf Try.f67) [1,1,1,0,1,0,0,1,1,0,0,0]
theorem f67t18 {ρ : Type} (N : Nat) (num3 : List Int) (den4 : List Int) (out5 : List Int) (t34 : Int) (t35 : Int) (m1_0 : Int) (m1_1 : Int) (m1_2 : List Int) (K : KT ρ) : f67i N f67c18 .n (f67s4 num3 den4 out5 t34 t35 m1_0 m1_1 m1_2) (joinK (some f67l6) K) =
  impl_factors.Z18 N num3 den4 out5 t34 t35 m1_0 m1_1 m1_2 (fun num3 den4 out5 s6 t34 t35 m1_0 m1_1 m1_2 => K .nrm (f67s6 num3 den4 out5 s6 t34 t35 m1_0 m1_1 m1_2)) := by kernel_rfl
noncomputable def f67c20 := codeAt (bodyOf Try.f67) [1,1,1,0,1,0,0,1,1,0,0,1,0]
theorem f67t20 {ρ : Type} (N : Nat) (num3 : List Int) (den4 : List Int) (out5 : List Int) (s6 : Int) (t34 : Int) (t35 : Int) (m1_0 : Int) (m1_1 : Int) (m1_2 : List Int) (K : KT ρ) : f67i N f67c20 .n (f67s6 num3 den4 out5 s6 t34 t35 m1_0 m1_1 m1_2) (joinK (some f67l6) K) =
  impl_factors.Z20 N num3 den4 out5 s6 t34 t35 m1_0 m1_1 m1_2 (fun num3 den4 out5 s6 t34 t35 m1_0 m1_1 m1_2 => K .nrm (f67s6 num3 den4 out5 s6 t34 t35 m1_0 m1_1 m1_2)) (fun num3 den4 out5 t34 t35 m1_0 m1_1 m1_2 => K (.exit 1) (f67s4 num3 den4 out5 t34 t35 m1_0 m1_1 m1_2)) := by kernel_rfl
noncomputable def f67c22 := codeAt (bodyOf Try.f67) [1,1,1,0,1,0,0,1,1,0,0,1,1,0]
theorem f67t22 {ρ : Type} (N : Nat) (num3 : List Int) (den4 : List Int) (out5 : List Int) (s6 : Int) (t34 : Int) (t35 : Int) (m1_0 : Int) (m1_1 : Int) (m1_2 : List Int) (K : KT ρ) : f67i N f67c22 .n (f67s6 num3 den4 out5 s6 t34 t35 m1_0 m1_1 m1_2) (joinK (some f67l6) K) =
  impl_factors.Z22 N num3 den4 out5 s6 t34 t35 m1_0 m1_1 m1_2 (fun num3 den4 out5 s6 t34 t35 m1_0 m1_1 m1_2 => K .nrm (f67s6 num3 den4 out5 s6 t34 t35 m1_0 m1_1 m1_2)) := by kernel_rfl
noncomputable def f67c24 := codeAt (bodyOf Try.f67) [1,1,1,0,1,0,0,1,1,0,0,1,1,1,0]
theorem f67t24 {ρ : Type} (N : Nat) (num3 : List Int) (den4 : List Int) (out5 : List Int) (s6 : Int) (t34 : Int) (t35 : Int) (m1_0 : Int) (m1_1 : Int) (m1_2 : List Int) (K : KT ρ) : f67i N f67c24 .n (f67s6 num3 den4 out5 s6 t34 t35 m1_0 m1_1 m1_2) (joinK (some f67l7) K) =
  impl_factors.Z24 N num3 den4 out5 s6 t34 t35 m1_0 m1_1 m1_2 (fun num3 den4 out5 piece7 t34 t35 m1_0 m1_1 m1_2 => K .nrm (f67s7 num3 den4 out5 piece7 t34 t35 m1_0 m1_1 m1_2)) := by kernel_rfl
noncomputable def f67c27 := codeAt (bodyOf Try.f67) [1,1,1,0,1,0,0,1,1,0,0,1,1,1,1,0,0]
theorem f67t27 {ρ : Type} (N : Nat) (num3 : List Int) (den4 : List Int) (out5 : List Int) (piece7 : List Int) (t34 : Int) (t35 : Int) (m1_0 : Int) (m1_1 : Int) (m1_2 : List Int) (K : KT ρ) : f67i N f67c27 .n (f67s7 num3 den4 out5 piece7 t34 t35 m1_0 m1_1 m1_2) (joinK (some f67l8) K) =
  impl_factors.Z27 N num3 den4 out5 piece7 t34 t35 m1_0 m1_1 m1_2 (fun num3 den4 out5 piece7 at8 t34 t35 m1_0 m1_1 m1_2 => K .nrm (f67s8 num3 den4 out5 piece7 at8 t34 t35 m1_0 m1_1 m1_2)) := by kernel_rfl
noncomputable def f67c31 := codeAt (bodyOf Try.f67) [1,1,1,0,1,0,0,1,1,0,0,1,1,1,1,0,1,0,0,0]
theorem f67t31 {ρ : Type} (N : Nat) (num3 : List Int) (den4 : List Int) (out5 : List Int) (piece7 : List Int) (at8 : Int) (t34 : Int) (t35 : Int) (m1_0 : Int) (m1_1 : Int) (m1_2 : List Int) (K : KT ρ) : f67i N f67c31 .n (f67s8 num3 den4 out5 piece7 at8 t34 t35 m1_0 m1_1 m1_2) (joinK (some f67l8) K) =
  impl_factors.Z31 N num3 den4 out5 piece7 at8 t34 t35 m1_0 m1_1 m1_2 (fun num3 den4 out5 piece7 at8 t34 t35 m1_0 m1_1 m1_2 => K .nrm (f67s8 num3 den4 out5 piece7 at8 t34 t35 m1_0 m1_1 m1_2)) (fun num3 den4 out5 piece7 t34 t35 m1_0 m1_1 m1_2 => K (.exit 2) (f67s7 num3 den4 out5 piece7 t34 t35 m1_0 m1_1 m1_2)) := by kernel_rfl
noncomputable def f67c35 := codeAt (bodyOf Try.f67) [1,1,1,0,1,0,0,1,1,0,0,1,1,1,1,0,1,0,0,1,0,0,0]
theorem f67t35 {ρ : Type} (N : Nat) (num3 : List Int) (den4 : List Int) (out5 : List Int) (piece7 : List Int) (at8 : Int) (t34 : Int) (t35 : Int) (m1_0 : Int) (m1_1 : Int) (m1_2 : List Int) (K : KT ρ) : f67i N f67c35 .n (f67s8 num3 den4 out5 piece7 at8 t34 t35 m1_0 m1_1 m1_2) (joinK (some f67l9) K) =
  impl_factors.Z35 N num3 den4 out5 piece7 at8 t34 t35 m1_0 m1_1 m1_2 (fun num3 den4 out5 piece7 at8 i9 t34 t35 m1_0 m1_1 m1_2 => K .nrm (f67s9 num3 den4 out5 piece7 at8 i9 t34 t35 m1_0 m1_1 m1_2)) := by kernel_rfl
noncomputable def f67c37 := codeAt (bodyOf Try.f67) [1,1,1,0,1,0,0,1,1,0,0,1,1,1,1,0,1,0,0,1,0,0,1,0]
theorem f67t37 {ρ : Type} (N : Nat) (num3 : List Int) (den4 : List Int) (out5 : List Int) (piece7 : List Int) (at8 : Int) (i9 : Int) (t34 : Int) (t35 : Int) (m1_0 : Int) (m1_1 : Int) (m1_2 : List Int) (K : KT ρ) : f67i N f67c37 .n (f67s9 num3 den4 out5 piece7 at8 i9 t34 t35 m1_0 m1_1 m1_2) (joinK (some f67l10) K) =
  impl_factors.Z37 N num3 den4 out5 piece7 at8 i9 t34 t35 m1_0 m1_1 m1_2 (fun num3 den4 out5 piece7 at8 i9 t34 t35 t62 t63 m1_0 m1_1 m1_2 => K .nrm (f67s10 num3 den4 out5 piece7 at8 i9 t34 t35 t62 t63 m1_0 m1_1 m1_2)) := by kernel_rfl
noncomputable def f67c41 := codeAt (bodyOf Try.f67) [1,1,1,0,1,0,0,1,1,0,0,1,1,1,1,0,1,0,0,1,0,0,1,1,0,0,0]
theorem f67t41 {ρ : Type} (N : Nat) (num3 : List Int) (den4 : List Int) (out5 : List Int) (piece7 : List Int) (at8 : Int) (i9 : Int) (t34 : Int) (t35 : Int) (t62 : Int) (t63 : Int) (m1_0 : Int) (m1_1 : Int) (m1_2 : List Int) (K : KT ρ) : f67i N f67c41 .n (f67s10 num3 den4 out5 piece7 at8 i9 t34 t35 t62 t63 m1_0 m1_1 m1_2) (joinK (some f67l11) K) =
  impl_factors.Z41 N num3 den4 out5 piece7 at8 i9 t34 t35 t62 t63 m1_0 m1_1 m1_2 (fun num3 den4 out5 piece7 at8 i9 t34 t35 t62 t63 t64 m1_0 m1_1 m1_2 => K .nrm (f67s11 num3 den4 out5 piece7 at8 i9 t34 t35 t62 t63 t64 m1_0 m1_1 m1_2)) := by kernel_rfl
noncomputable def f67c43 := codeAt (bodyOf Try.f67) [1,1,1,0,1,0,0,1,1,0,0,1,1,1,1,0,1,0,0,1,0,0,1,1,0,0,1,0]
theorem f67t43 {ρ : Type} (N : Nat) (num3 : List Int) (den4 : List Int) (out5 : List Int) (piece7 : List Int) (at8 : Int) (i9 : Int) (t34 : Int) (t35 : Int) (t62 : Int) (t63 : Int) (t64 : Bool) (m1_0 : Int) (m1_1 : Int) (m1_2 : List Int) (K : KT ρ) : f67i N f67c43 .n (f67s11 num3 den4 out5 piece7 at8 i9 t34 t35 t62 t63 t64 m1_0 m1_1 m1_2) (joinK (some f67l10) K) =
  impl_factors.Z43 N num3 den4 out5 piece7 at8 i9 t34 t35 t62 t63 t64 m1_0 m1_1 m1_2 (fun num3 den4 out5 piece7 at8 i9 t34 t35 t62 t63 m1_0 m1_1 m1_2 => K .nrm (f67s10 num3 den4 out5 piece7 at8 i9 t34 t35 t62 t63 m1_0 m1_1 m1_2)) (fun num3 den4 out5 piece7 at8 t34 t35 m1_0 m1_1 m1_2 => K (.exit 4) (f67s8 num3 den4 out5 piece7 at8 t34 t35 m1_0 m1_1 m1_2)) := by kernel_rfl
noncomputable def f67c47 := codeAt (bodyOf Try.f67) [1,1,1,0,1,0,0,1,1,0,0,1,1,1,1,0,1,0,0,1,0,0,1,1,0,0,1,1,0,0,0]
theorem f67t47 {ρ : Type} (N : Nat) (num3 : List Int) (den4 : List Int) (out5 : List Int) (piece7 : List Int) (at8 : Int) (i9 : Int) (t34 : Int) (t35 : Int) (t62 : Int) (t63 : Int) (m1_0 : Int) (m1_1 : Int) (m1_2 : List Int) (K : KT ρ) : f67i N f67c47 .n (f67s10 num3 den4 out5 piece7 at8 i9 t34 t35 t62 t63 m1_0 m1_1 m1_2) (joinK (some f67l12) K) =
  impl_factors.Z47 N num3 den4 out5 piece7 at8 i9 t34 t35 t62 t63 m1_0 m1_1 m1_2 (fun num3 den4 out5 piece7 at8 i9 j10 t34 t35 t62 t63 m1_0 m1_1 m1_2 => K .nrm (f67s12 num3 den4 out5 piece7 at8 i9 j10 t34 t35 t62 t63 m1_0 m1_1 m1_2)) := by kernel_rfl
noncomputable def f67c49 := codeAt (bodyOf Try.f67) [1,1,1,0,1,0,0,1,1,0,0,1,1,1,1,0,1,0,0,1,0,0,1,1,0,0,1,1,0,0,1,0]
theorem f67t49 {ρ : Type} (N : Nat) (num3 : List Int) (den4 : List Int) (out5 : List Int) (piece7 : List Int) (at8 : Int) (i9 : Int) (j10 : Int) (t34 : Int) (t35 : Int) (t62 : Int) (t63 : Int) (m1_0 : Int) (m1_1 : Int) (m1_2 : List Int) (K : KT ρ) : f67i N f67c49 .n (f67s12 num3 den4 out5 piece7 at8 i9 j10 t34 t35 t62 t63 m1_0 m1_1 m1_2) (joinK (some f67l13) K) =
  impl_factors.Z49 N num3 den4 out5 piece7 at8 i9 j10 t34 t35 t62 t63 m1_0 m1_1 m1_2 (fun num3 den4 out5 piece7 at8 i9 j10 p11 q12 t34 t35 t62 t63 m1_0 m1_1 m1_2 => K .nrm (f67s13 num3 den4 out5 piece7 at8 i9 j10 p11 q12 t34 t35 t62 t63 m1_0 m1_1 m1_2)) := by kernel_rfl
noncomputable def f67c51 := codeAt (bodyOf Try.f67) [1,1,1,0,1,0,0,1,1,0,0,1,1,1,1,0,1,0,0,1,0,0,1,1,0,0,1,1,0,0,1,1,0]
theorem f67t51 {ρ : Type} (N : Nat) (num3 : List Int) (den4 : List Int) (out5 : List Int) (piece7 : List Int) (at8 : Int) (i9 : Int) (j10 : Int) (p11 : Int) (q12 : Int) (t34 : Int) (t35 : Int) (t62 : Int) (t63 : Int) (m1_0 : Int) (m1_1 : Int) (m1_2 : List Int) (K : KT ρ) : f67i N f67c51 .n (f67s13 num3 den4 out5 piece7 at8 i9 j10 p11 q12 t34 t35 t62 t63 m1_0 m1_1 m1_2) (joinK (some f67l13) K) =
  impl_factors.Z51 N num3 den4 out5 piece7 at8 i9 j10 p11 q12 t34 t35 t62 t63 m1_0 m1_1 m1_2 (fun num3 den4 out5 piece7 at8 i9 j10 p11 q12 t34 t35 t62 t63 m1_0 m1_1 m1_2 => K .nrm (f67s13 num3 den4 out5 piece7 at8 i9 j10 p11 q12 t34 t35 t62 t63 m1_0 m1_1 m1_2)) (fun num3 den4 out5 piece7 at8 i9 t34 t35 t62 t63 m1_0 m1_1 m1_2 => K (.exit 5) (f67s10 num3 den4 out5 piece7 at8 i9 t34 t35 t62 t63 m1_0 m1_1 m1_2)) := by kernel_rfl
noncomputable def f67c52 := codeAt (bodyOf Try.f67) [1,1,1,0,1,0,0,1,1,0,0,1,1,1,1,0,1,0,0,1,0,0,1,1,0,0,1,1,0,0,1,1,1]
theorem f67t52 {ρ : Type} (N : Nat) (num3 : List Int) (den4 : List Int) (out5 : List Int) (piece7 : List Int) (at8 : Int) (i9 : Int) (j10 : Int) (p11 : Int) (q12 : Int) (t34 : Int) (t35 : Int) (t62 : Int) (t63 : Int) (m1_0 : Int) (m1_1 : Int) (m1_2 : List Int) (K : KT ρ) : f67i N f67c52 .n (f67s13 num3 den4 out5 piece7 at8 i9 j10 p11 q12 t34 t35 t62 t63 m1_0 m1_1 m1_2) (joinK (some f67l10) K) =
  impl_factors.Z52 N num3 den4 out5 piece7 at8 i9 j10 p11 q12 t34 t35 t62 t63 m1_0 m1_1 m1_2 (fun num3 den4 out5 piece7 at8 i9 t34 t35 t62 t63 m1_0 m1_1 m1_2 => K .nrm (f67s10 num3 den4 out5 piece7 at8 i9 t34 t35 t62 t63 m1_0 m1_1 m1_2)) (fun t2 => K .ret (f67s21 t2)) := by kernel_rfl
noncomputable def f67c50 := codeAt (bodyOf Try.f67) [1,1,1,0,1,0,0,1,1,0,0,1,1,1,1,0,1,0,0,1,0,0,1,1,0,0,1,1,0,0,1,1]
noncomputable def f67p50 : Plan := .mk (some f67l13) none .n .n
theorem f67t50 {ρ : Type} (N : Nat) (num3 : List Int) (den4 : List Int) (out5 : List Int) (piece7 : List Int) (at8 : Int) (i9 : Int) (j10 : Int) (p11 : Int) (q12 : Int) (t34 : Int) (t35 : Int) (t62 : Int) (t63 : Int) (m1_0 : Int) (m1_1 : Int) (m1_2 : List Int) (K : KT ρ) : f67i N f67c50 f67p50 (f67s13 num3 den4 out5 piece7 at8 i9 j10 p11 q12 t34 t35 t62 t63 m1_0 m1_1 m1_2) (joinK (some f67l10) K) =
  impl_factors.Z50 N num3 den4 out5 piece7 at8 i9 j10 p11 q12 t34 t35 t62 t63 m1_0 m1_1 m1_2 (fun num3 den4 out5 piece7 at8 i9 t34 t35 t62 t63 m1_0 m1_1 m1_2 => K .nrm (f67s10 num3 den4 out5 piece7 at8 i9 t34 t35 t62 t63 m1_0 m1_1 m1_2)) (fun num3 den4 out5 piece7 at8 i9 t34 t35 t62 t63 m1_0 m1_1 m1_2 => K (.exit 5) (f67s10 num3 den4 out5 piece7 at8 i9 t34 t35 t62 t63 m1_0 m1_1 m1_2)) (fun t2 => K .ret (f67s21 t2)) :=
  viaSeq (fun k => impl_factors.Z51 N num3 den4 out5 piece7 at8 i9 j10 p11 q12 t34 t35 t62 t63 m1_0 m1_1 m1_2 k (fun num3 den4 out5 piece7 at8 i9 t34 t35 t62 t63 m1_0 m1_1 m1_2 => K (.exit 5) (f67s10 num3 den4 out5 piece7 at8 i9 t34 t35 t62 t63 m1_0 m1_1 m1_2))) (by kernel_rfl) (by kernel_rfl) (f67t51 N num3 den4 out5 piece7 at8 i9 j10 p11 q12 t34 t35 t62 t63 m1_0 m1_1 m1_2 (seqK (fun σ => f67i N f67c52 .n σ (joinK (some f67l10) K)) (joinK (some f67l10) K))) (funext fun num3 => funext fun den4 => funext fun out5 => funext fun piece7 => funext fun at8 => funext fun i9 => funext fun j10 => funext fun p11 => funext fun q12 => funext fun t34 => funext fun t35 => funext fun t62 => funext fun t63 => funext fun m1_0 => funext fun m1_1 => funext fun m1_2 => f67t52 N num3 den4 out5 piece7 at8 i9 j10 p11 q12 t34 t35 t62 t63 m1_0 m1_1 m1_2 K) (by kernel_rfl) (by kernel_rfl)
noncomputable def f67c48 := codeAt (bodyOf Try.f67) [1,1,1,0,1,0,0,1,1,0,0,1,1,1,1,0,1,0,0,1,0,0,1,1,0,0,1,1,0,0,1]
noncomputable def f67p48 : Plan := .mk (some f67l13) none .n f67p50
theorem f67t48 {ρ : Type} (N : Nat) (num3 : List Int) (den4 : List Int) (out5 : List Int) (piece7 : List Int) (at8 : Int) (i9 : Int) (j10 : Int) (t34 : Int) (t35 : Int) (t62 : Int) (t63 : Int) (m1_0 : Int) (m1_1 : Int) (m1_2 : List Int) (K : KT ρ) : f67i N f67c48 f67p48 (f67s12 num3 den4 out5 piece7 at8 i9 j10 t34 t35 t62 t63 m1_0 m1_1 m1_2) (joinK (some f67l10) K) =
  impl_factors.Z48 N num3 den4 out5 piece7 at8 i9 j10 t34 t35 t62 t63 m1_0 m1_1 m1_2 (fun num3 den4 out5 piece7 at8 i9 t34 t35 t62 t63 m1_0 m1_1 m1_2 => K .nrm (f67s10 num3 den4 out5 piece7 at8 i9 t34 t35 t62 t63 m1_0 m1_1 m1_2)) (fun num3 den4 out5 piece7 at8 i9 t34 t35 t62 t63 m1_0 m1_1 m1_2 => K (.exit 5) (f67s10 num3 den4 out5 piece7 at8 i9 t34 t35 t62 t63 m1_0 m1_1 m1_2)) (fun t2 => K .ret (f67s21 t2)) :=
  viaSeq (fun k => impl_factors.Z49 N num3 den4 out5 piece7 at8 i9 j10 t34 t35 t62 t63 m1_0 m1_1 m1_2 k) (by kernel_rfl) (by kernel_rfl) (f67t49 N num3 den4 out5 piece7 at8 i9 j10 t34 t35 t62 t63 m1_0 m1_1 m1_2 (seqK (fun σ => f67i N f67c50 f67p50 σ (joinK (some f67l10) K)) (joinK (some f67l10) K))) (funext fun num3 => funext fun den4 => funext fun out5 => funext fun piece7 => funext fun at8 => funext fun i9 => funext fun j10 => funext fun p11 => funext fun q12 => funext fun t34 => funext fun t35 => funext fun t62 => funext fun t63 => funext fun m1_0 => funext fun m1_1 => funext fun m1_2 => f67t50 N num3 den4 out5 piece7 at8 i9 j10 p11 q12 t34 t35 t62 t63 m1_0 m1_1 m1_2 K) (by kernel_rfl) (by kernel_rfl)
noncomputable def f67c46 := codeAt (bodyOf Try.f67) [1,1,1,0,1,0,0,1,1,0,0,1,1,1,1,0,1,0,0,1,0,0,1,1,0,0,1,1,0,0]
noncomputable def f67p46 : Plan := .mk (some f67l12) none .n f67p48
theorem f67t46 {ρ : Type} (N : Nat) (num3 : List Int) (den4 : List Int) (out5 : List Int) (piece7 : List Int) (at8 : Int) (i9 : Int) (t34 : Int) (t35 : Int) (t62 : Int) (t63 : Int) (m1_0 : Int) (m1_1 : Int) (m1_2 : List Int) (K : KT ρ) : f67i N f67c46 f67p46 (f67s10 num3 den4 out5 piece7 at8 i9 t34 t35 t62 t63 m1_0 m1_1 m1_2) (joinK (some f67l10) K) =
  impl_factors.Z46 N num3 den4 out5 piece7 at8 i9 t34 t35 t62 t63 m1_0 m1_1 m1_2 (fun num3 den4 out5 piece7 at8 i9 t34 t35 t62 t63 m1_0 m1_1 m1_2 => K .nrm (f67s10 num3 den4 out5 piece7 at8 i9 t34 t35 t62 t63 m1_0 m1_1 m1_2)) (fun num3 den4 out5 piece7 at8 i9 t34 t35 t62 t63 m1_0 m1_1 m1_2 => K (.exit 5) (f67s10 num3 den4 out5 piece7 at8 i9 t34 t35 t62 t63 m1_0 m1_1 m1_2)) (fun t2 => K .ret (f67s21 t2)) :=
  viaSeq (fun k => impl_factors.Z47 N num3 den4 out5 piece7 at8 i9 t34 t35 t62 t63 m1_0 m1_1 m1_2 k) (by kernel_rfl) (by kernel_rfl) (f67t47 N num3 den4 out5 piece7 at8 i9 t34 t35 t62 t63 m1_0 m1_1 m1_2 (seqK (fun σ => f67i N f67c48 f67p48 σ (joinK (some f67l10) K)) (joinK (some f67l10) K))) (funext fun num3 => funext fun den4 => funext fun out5 => funext fun piece7 => funext fun at8 => funext fun i9 => funext fun j10 => funext fun t34 => funext fun t35 => funext fun t62 => funext fun t63 => funext fun m1_0 => funext fun m1_1 => funext fun m1_2 => f67t48 N num3 den4 out5 piece7 at8 i9 j10 t34 t35 t62 t63 m1_0 m1_1 m1_2 K) (by kernel_rfl) (by kernel_rfl)
noncomputable def f67c45 := codeAt (bodyOf Try.f67) [1,1,1,0,1,0,0,1,1,0,0,1,1,1,1,0,1,0,0,1,0,0,1,1,0,0,1,1,0]
noncomputable def f67p45 : Plan := .mk (some f67l10) none f67p46 .n
theorem f67t45 {ρ : Type} (N : Nat) (num3 : List Int) (den4 : List Int) (out5 : List Int) (piece7 : List Int) (at8 : Int) (i9 : Int) (t34 : Int) (t35 : Int) (t62 : Int) (t63 : Int) (m1_0 : Int) (m1_1 : Int) (m1_2 : List Int) (K : KT ρ) : f67i N f67c45 f67p45 (f67s10 num3 den4 out5 piece7 at8 i9 t34 t35 t62 t63 m1_0 m1_1 m1_2) (joinK (some f67l10) K) =
  impl_factors.Z45 N num3 den4 out5 piece7 at8 i9 t34 t35 t62 t63 m1_0 m1_1 m1_2 (fun num3 den4 out5 piece7 at8 i9 t34 t35 t62 t63 m1_0 m1_1 m1_2 => K .nrm (f67s10 num3 den4 out5 piece7 at8 i9 t34 t35 t62 t63 m1_0 m1_1 m1_2)) (fun t2 => K .ret (f67s21 t2)) :=
  viaBlock (by kernel_rfl) (by kernel_rfl) (f67t46 N num3 den4 out5 piece7 at8 i9 t34 t35 t62 t63 m1_0 m1_1 m1_2 (blockK 5 (joinK (some f67l10) K))) (by kernel_rfl)
noncomputable def f67c53 := codeAt (bodyOf Try.f67) [1,1,1,0,1,0,0,1,1,0,0,1,1,1,1,0,1,0,0,1,0,0,1,1,0,0,1,1,1]
theorem f67t53 {ρ : Type} (N : Nat) (num3 : List Int) (den4 : List Int) (out5 : List Int) (piece7 : List Int) (at8 : Int) (i9 : Int) (t34 : Int) (t35 : Int) (t62 : Int) (t63 : Int) (m1_0 : Int) (m1_1 : Int) (m1_2 : List Int) (K : KT ρ) : f67i N f67c53 .n (f67s10 num3 den4 out5 piece7 at8 i9 t34 t35 t62 t63 m1_0 m1_1 m1_2) (joinK (some f67l10) K) =
  impl_factors.Z53 N num3 den4 out5 piece7 at8 i9 t34 t35 t62 t63 m1_0 m1_1 m1_2 (fun num3 den4 out5 piece7 at8 i9 t34 t35 t62 t63 m1_0 m1_1 m1_2 => K .nrm (f67s10 num3 den4 out5 piece7 at8 i9 t34 t35 t62 t63 m1_0 m1_1 m1_2)) := by kernel_rfl
noncomputable def f67c44 := codeAt (bodyOf Try.f67) [1,1,1,0,1,0,0,1,1,0,0,1,1,1,1,0,1,0,0,1,0,0,1,1,0,0,1,1]
noncomputable def f67p44 : Plan := .mk (some f67l10) none f67p45 .n
theorem f67t44 {ρ : Type} (N : Nat) (num3 : List Int) (den4 : List Int) (out5 : List Int) (piece7 : List Int) (at8 : Int) (i9 : Int) (t34 : Int) (t35 : Int) (t62 : Int) (t63 : Int) (m1_0 : Int) (m1_1 : Int) (m1_2 : List Int) (K : KT ρ) : f67i N f67c44 f67p44 (f67s10 num3 den4 out5 piece7 at8 i9 t34 t35 t62 t63 m1_0 m1_1 m1_2) (joinK (some f67l10) K) =
  impl_factors.Z44 N num3 den4 out5 piece7 at8 i9 t34 t35 t62 t63 m1_0 m1_1 m1_2 (fun num3 den4 out5 piece7 at8 i9 t34 t35 t62 t63 m1_0 m1_1 m1_2 => K .nrm (f67s10 num3 den4 out5 piece7 at8 i9 t34 t35 t62 t63 m1_0 m1_1 m1_2)) (fun t2 => K .ret (f67s21 t2)) :=
  viaSeq (fun k => impl_factors.Z45 N num3 den4 out5 piece7 at8 i9 t34 t35 t62 t63 m1_0 m1_1 m1_2 k (fun t2 => K .ret (f67s21 t2))) (by kernel_rfl) (by kernel_rfl) (f67t45 N num3 den4 out5 piece7 at8 i9 t34 t35 t62 t63 m1_0 m1_1 m1_2 (seqK (fun σ => f67i N f67c53 .n σ (joinK (some f67l10) K)) (joinK (some f67l10) K))) (funext fun num3 => funext fun den4 => funext fun out5 => funext fun piece7 => funext fun at8 => funext fun i9 => funext fun t34 => funext fun t35 => funext fun t62 => funext fun t63 => funext fun m1_0 => funext fun m1_1 => funext fun m1_2 => f67t53 N num3 den4 out5 piece7 at8 i9 t34 t35 t62 t63 m1_0 m1_1 m1_2 K) (by kernel_rfl) (by kernel_rfl)
noncomputable def f67c42 := codeAt (bodyOf Try.f67) [1,1,1,0,1,0,0,1,1,0,0,1,1,1,1,0,1,0,0,1,0,0,1,1,0,0,1]
noncomputable def f67p42 : Plan := .mk (some f67l10) none .n f67p44
theorem f67t42 {ρ : Type} (N : Nat) (num3 : List Int) (den4 : List Int) (out5 : List Int) (piece7 : List Int) (at8 : Int) (i9 : Int) (t34 : Int) (t35 : Int) (t62 : Int) (t63 : Int) (t64 : Bool) (m1_0 : Int) (m1_1 : Int) (m1_2 : List Int) (K : KT ρ) : f67i N f67c42 f67p42 (f67s11 num3 den4 out5 piece7 at8 i9 t34 t35 t62 t63 t64 m1_0 m1_1 m1_2) (joinK (some f67l10) K) =
  impl_factors.Z42 N num3 den4 out5 piece7 at8 i9 t34 t35 t62 t63 t64 m1_0 m1_1 m1_2 (fun num3 den4 out5 piece7 at8 i9 t34 t35 t62 t63 m1_0 m1_1 m1_2 => K .nrm (f67s10 num3 den4 out5 piece7 at8 i9 t34 t35 t62 t63 m1_0 m1_1 m1_2)) (fun num3 den4 out5 piece7 at8 t34 t35 m1_0 m1_1 m1_2 => K (.exit 4) (f67s8 num3 den4 out5 piece7 at8 t34 t35 m1_0 m1_1 m1_2)) (fun t2 => K .ret (f67s21 t2)) :=
  viaSeq (fun k => impl_factors.Z43 N num3 den4 out5 piece7 at8 i9 t34 t35 t62 t63 t64 m1_0 m1_1 m1_2 k (fun num3 den4 out5 piece7 at8 t34 t35 m1_0 m1_1 m1_2 => K (.exit 4) (f67s8 num3 den4 out5 piece7 at8 t34 t35 m1_0 m1_1 m1_2))) (by kernel_rfl) (by kernel_rfl) (f67t43 N num3 den4 out5 piece7 at8 i9 t34 t35 t62 t63 t64 m1_0 m1_1 m1_2 (seqK (fun σ => f67i N f67c44 f67p44 σ (joinK (some f67l10) K)) (joinK (some f67l10) K))) (funext fun num3 => funext fun den4 => funext fun out5 => funext fun piece7 => funext fun at8 => funext fun i9 => funext fun t34 => funext fun t35 => funext fun t62 => funext fun t63 => funext fun m1_0 => funext fun m1_1 => funext fun m1_2 => f67t44 N num3 den4 out5 piece7 at8 i9 t34 t35 t62 t63 m1_0 m1_1 m1_2 K) (by kernel_rfl) (by kernel_rfl)
noncomputable def f67c40 := codeAt (bodyOf Try.f67) [1,1,1,0,1,0,0,1,1,0,0,1,1,1,1,0,1,0,0,1,0,0,1,1,0,0]
noncomputable def f67p40 : Plan := .mk (some f67l11) none .n f67p42
theorem f67t40 {ρ : Type} (N : Nat) (num3 : List Int) (den4 : List Int) (out5 : List Int) (piece7 : List Int) (at8 : Int) (i9 : Int) (t34 : Int) (t35 : Int) (t62 : Int) (t63 : Int) (m1_0 : Int) (m1_1 : Int) (m1_2 : List Int) (K : KT ρ) : f67i N f67c40 f67p40 (f67s10 num3 den4 out5 piece7 at8 i9 t34 t35 t62 t63 m1_0 m1_1 m1_2) (joinK (some f67l10) K) =
  impl_factors.Z40 N num3 den4 out5 piece7 at8 i9 t34 t35 t62 t63 m1_0 m1_1 m1_2 (fun num3 den4 out5 piece7 at8 i9 t34 t35 t62 t63 m1_0 m1_1 m1_2 => K .nrm (f67s10 num3 den4 out5 piece7 at8 i9 t34 t35 t62 t63 m1_0 m1_1 m1_2)) (fun num3 den4 out5 piece7 at8 t34 t35 m1_0 m1_1 m1_2 => K (.exit 4) (f67s8 num3 den4 out5 piece7 at8 t34 t35 m1_0 m1_1 m1_2)) (fun t2 => K .ret (f67s21 t2)) :=
  viaSeq (fun k => impl_factors.Z41 N num3 den4 out5 piece7 at8 i9 t34 t35 t62 t63 m1_0 m1_1 m1_2 k) (by kernel_rfl) (by kernel_rfl) (f67t41 N num3 den4 out5 piece7 at8 i9 t34 t35 t62 t63 m1_0 m1_1 m1_2 (seqK (fun σ => f67i N f67c42 f67p42 σ (joinK (some f67l10) K)) (joinK (some f67l10) K))) (funext fun num3 => funext fun den4 => funext fun out5 => funext fun piece7 => funext fun at8 => funext fun i9 => funext fun t34 => funext fun t35 => funext fun t62 => funext fun t63 => funext fun t64 => funext fun m1_0 => funext fun m1_1 => funext fun m1_2 => f67t42 N num3 den4 out5 piece7 at8 i9 t34 t35 t62 t63 t64 m1_0 m1_1 m1_2 K) (by kernel_rfl) (by kernel_rfl)
noncomputable def f67c39 := codeAt (bodyOf Try.f67) [1,1,1,0,1,0,0,1,1,0,0,1,1,1,1,0,1,0,0,1,0,0,1,1,0]
noncomputable def f67p39 : Plan := .mk none (some f67l10) f67p40 .n
noncomputable abbrev f67w39 {ρ : Type} (N : Nat) (M : Nat) (σ : St) (K : KT ρ) : Option ρ := loopC (fun σ K => f67i N f67c40 f67p40 σ K) f67l10 M σ K
theorem f67t39L {ρ : Type} (N : Nat) (K : KT ρ) : ∀ (M : Nat) (num3 : List Int) (den4 : List Int) (out5 : List Int) (piece7 : List Int) (at8 : Int) (i9 : Int) (t34 : Int) (t35 : Int) (t62 : Int) (t63 : Int) (m1_0 : Int) (m1_1 : Int) (m1_2 : List Int), f67w39 N M (f67s10 num3 den4 out5 piece7 at8 i9 t34 t35 t62 t63 m1_0 m1_1 m1_2) K =
  impl_factors.Z39L N (fun num3 den4 out5 piece7 at8 t34 t35 m1_0 m1_1 m1_2 => K (.exit 4) (f67s8 num3 den4 out5 piece7 at8 t34 t35 m1_0 m1_1 m1_2)) (fun t2 => K .ret (f67s21 t2)) M num3 den4 out5 piece7 at8 i9 t34 t35 t62 t63 m1_0 m1_1 m1_2
  | 0, _, _, _, _, _, _, _, _, _, _, _, _, _ => rfl
  | M + 1, num3, den4, out5, piece7, at8, i9, t34, t35, t62, t63, m1_0, m1_1, m1_2 => viaRound (fun k => impl_factors.Z40 N num3 den4 out5 piece7 at8 i9 t34 t35 t62 t63 m1_0 m1_1 m1_2 k (fun num3 den4 out5 piece7 at8 t34 t35 m1_0 m1_1 m1_2 => K (.exit 4) (f67s8 num3 den4 out5 piece7 at8 t34 t35 m1_0 m1_1 m1_2)) (fun t2 => K .ret (f67s21 t2))) (f67t40 N num3 den4 out5 piece7 at8 i9 t34 t35 t62 t63 m1_0 m1_1 m1_2 (seqK (fun σ => f67w39 N M σ K) K)) (funext fun num3 => funext fun den4 => funext fun out5 => funext fun piece7 => funext fun at8 => funext fun i9 => funext fun t34 => funext fun t35 => funext fun t62 => funext fun t63 => funext fun m1_0 => funext fun m1_1 => funext fun m1_2 => f67t39L N K M num3 den4 out5 piece7 at8 i9 t34 t35 t62 t63 m1_0 m1_1 m1_2) (by kernel_rfl) (by kernel_rfl)
theorem f67t39 {ρ : Type} (N : Nat) (num3 : List Int) (den4 : List Int) (out5 : List Int) (piece7 : List Int) (at8 : Int) (i9 : Int) (t34 : Int) (t35 : Int) (t62 : Int) (t63 : Int) (m1_0 : Int) (m1_1 : Int) (m1_2 : List Int) (K : KT ρ) : f67i N f67c39 f67p39 (f67s10 num3 den4 out5 piece7 at8 i9 t34 t35 t62 t63 m1_0 m1_1 m1_2) (joinK (some f67l8) K) =
  impl_factors.Z39 N num3 den4 out5 piece7 at8 i9 t34 t35 t62 t63 m1_0 m1_1 m1_2 (fun num3 den4 out5 piece7 at8 t34 t35 m1_0 m1_1 m1_2 => K (.exit 4) (f67s8 num3 den4 out5 piece7 at8 t34 t35 m1_0 m1_1 m1_2)) (fun t2 => K .ret (f67s21 t2)) :=
  viaLoop (by kernel_rfl) (by kernel_rfl) (σ' := f67s10 num3 den4 out5 piece7 at8 i9 t34 t35 t62 t63 m1_0 m1_1 m1_2) (by kernel_rfl) (f67t39L N (joinK (some f67l8) K) N num3 den4 out5 piece7 at8 i9 t34 t35 t62 t63 m1_0 m1_1 m1_2) (by kernel_rfl)
noncomputable def f67c38 := codeAt (bodyOf Try.f67) [1,1,1,0,1,0,0,1,1,0,0,1,1,1,1,0,1,0,0,1,0,0,1,1]
noncomputable def f67p38 : Plan := .mk (some f67l8) none f67p39 .n
theorem f67t38 {ρ : Type} (N : Nat) (num3 : List Int) (den4 : List Int) (out5 : List Int) (piece7 : List Int) (at8 : Int) (i9 : Int) (t34 : Int) (t35 : Int) (t62 : Int) (t63 : Int) (m1_0 : Int) (m1_1 : Int) (m1_2 : List Int) (K : KT ρ) : f67i N f67c38 f67p38 (f67s10 num3 den4 out5 piece7 at8 i9 t34 t35 t62 t63 m1_0 m1_1 m1_2) (joinK (some f67l8) K) =
  impl_factors.Z38 N num3 den4 out5 piece7 at8 i9 t34 t35 t62 t63 m1_0 m1_1 m1_2 (fun num3 den4 out5 piece7 at8 t34 t35 m1_0 m1_1 m1_2 => K .nrm (f67s8 num3 den4 out5 piece7 at8 t34 t35 m1_0 m1_1 m1_2)) (fun t2 => K .ret (f67s21 t2)) :=
  viaBlock (by kernel_rfl) (by kernel_rfl) (f67t39 N num3 den4 out5 piece7 at8 i9 t34 t35 t62 t63 m1_0 m1_1 m1_2 (blockK 4 (joinK (some f67l8) K))) (by kernel_rfl)
noncomputable def f67c36 := codeAt (bodyOf Try.f67) [1,1,1,0,1,0,0,1,1,0,0,1,1,1,1,0,1,0,0,1,0,0,1]
noncomputable def f67p36 : Plan := .mk (some f67l10) none .n f67p38
theorem f67t36 {ρ : Type} (N : Nat) (num3 : List Int) (den4 : List Int) (out5 : List Int) (piece7 : List Int) (at8 : Int) (i9 : Int) (t34 : Int) (t35 : Int) (m1_0 : Int) (m1_1 : Int) (m1_2 : List Int) (K : KT ρ) : f67i N f67c36 f67p36 (f67s9 num3 den4 out5 piece7 at8 i9 t34 t35 m1_0 m1_1 m1_2) (joinK (some f67l8) K) =
  impl_factors.Z36 N num3 den4 out5 piece7 at8 i9 t34 t35 m1_0 m1_1 m1_2 (fun num3 den4 out5 piece7 at8 t34 t35 m1_0 m1_1 m1_2 => K .nrm (f67s8 num3 den4 out5 piece7 at8 t34 t35 m1_0 m1_1 m1_2)) (fun t2 => K .ret (f67s21 t2)) :=
  viaSeq (fun k => impl_factors.Z37 N num3 den4 out5 piece7 at8 i9 t34 t35 m1_0 m1_1 m1_2 k) (by kernel_rfl) (by kernel_rfl) (f67t37 N num3 den4 out5 piece7 at8 i9 t34 t35 m1_0 m1_1 m1_2 (seqK (fun σ => f67i N f67c38 f67p38 σ (joinK (some f67l8) K)) (joinK (some f67l8) K))) (funext fun num3 => funext fun den4 => funext fun out5 => funext fun piece7 => funext fun at8 => funext fun i9 => funext fun t34 => funext fun t35 => funext fun t62 => funext fun t63 => funext fun m1_0 => funext fun m1_1 => funext fun m1_2 => f67t38 N num3 den4 out5 piece7 at8 i9 t34 t35 t62 t63 m1_0 m1_1 m1_2 K) (by kernel_rfl) (by kernel_rfl)
noncomputable def f67c34 := codeAt (bodyOf Try.f67) [1,1,1,0,1,0,0,1,1,0,0,1,1,1,1,0,1,0,0,1,0,0]
noncomputable def f67p34 : Plan := .mk (some f67l9) none .n f67p36
theorem f67t34 {ρ : Type} (N : Nat) (num3 : List Int) (den4 : List Int) (out5 : List Int) (piece7 : List Int) (at8 : Int) (t34 : Int) (t35 : Int) (m1_0 : Int) (m1_1 : Int) (m1_2 : List Int) (K : KT ρ) : f67i N f67c34 f67p34 (f67s8 num3 den4 out5 piece7 at8 t34 t35 m1_0 m1_1 m1_2) (joinK (some f67l8) K) =
  impl_factors.Z34 N num3 den4 out5 piece7 at8 t34 t35 m1_0 m1_1 m1_2 (fun num3 den4 out5 piece7 at8 t34 t35 m1_0 m1_1 m1_2 => K .nrm (f67s8 num3 den4 out5 piece7 at8 t34 t35 m1_0 m1_1 m1_2)) (fun t2 => K .ret (f67s21 t2)) :=
  viaSeq (fun k => impl_factors.Z35 N num3 den4 out5 piece7 at8 t34 t35 m1_0 m1_1 m1_2 k) (by kernel_rfl) (by kernel_rfl) (f67t35 N num3 den4 out5 piece7 at8 t34 t35 m1_0 m1_1 m1_2 (seqK (fun σ => f67i N f67c36 f67p36 σ (joinK (some f67l8) K)) (joinK (some f67l8) K))) (funext fun num3 => funext fun den4 => funext fun out5 => funext fun piece7 => funext fun at8 => funext fun i9 => funext fun t34 => funext fun t35 => funext fun m1_0 => funext fun m1_1 => funext fun m1_2 => f67t36 N num3 den4 out5 piece7 at8 i9 t34 t35 m1_0 m1_1 m1_2 K) (by kernel_rfl) (by kernel_rfl)
noncomputable def f67c33 := codeAt (bodyOf Try.f67) [1,1,1,0,1,0,0,1,1,0,0,1,1,1,1,0,1,0,0,1,0]
noncomputable def f67p33 : Plan := .mk (some f67l8) none f67p34 .n
theorem f67t33 {ρ : Type} (N : Nat) (num3 : List Int) (den4 : List Int) (out5 : List Int) (piece7 : List Int) (at8 : Int) (t34 : Int) (t35 : Int) (m1_0 : Int) (m1_1 : Int) (m1_2 : List Int) (K : KT ρ) : f67i N f67c33 f67p33 (f67s8 num3 den4 out5 piece7 at8 t34 t35 m1_0 m1_1 m1_2) (joinK (some f67l8) K) =
  impl_factors.Z33 N num3 den4 out5 piece7 at8 t34 t35 m1_0 m1_1 m1_2 (fun num3 den4 out5 piece7 at8 t34 t35 m1_0 m1_1 m1_2 => K .nrm (f67s8 num3 den4 out5 piece7 at8 t34 t35 m1_0 m1_1 m1_2)) (fun t2 => K .ret (f67s21 t2)) :=
  viaBlock (by kernel_rfl) (by kernel_rfl) (f67t34 N num3 den4 out5 piece7 at8 t34 t35 m1_0 m1_1 m1_2 (blockK 3 (joinK (some f67l8) K))) (by kernel_rfl)
noncomputable def f67c54 := codeAt (bodyOf Try.f67) [1,1,1,0,1,0,0,1,1,0,0,1,1,1,1,0,1,0,0,1,1]
theorem f67t54 {ρ : Type} (N : Nat) (num3 : List Int) (den4 : List Int) (out5 : List Int) (piece7 : List Int) (at8 : Int) (t34 : Int) (t35 : Int) (m1_0 : Int) (m1_1 : Int) (m1_2 : List Int) (K : KT ρ) : f67i N f67c54 .n (f67s8 num3 den4 out5 piece7 at8 t34 t35 m1_0 m1_1 m1_2) (joinK (some f67l8) K) =
  impl_factors.Z54 N num3 den4 out5 piece7 at8 t34 t35 m1_0 m1_1 m1_2 (fun num3 den4 out5 piece7 at8 t34 t35 m1_0 m1_1 m1_2 => K .nrm (f67s8 num3 den4 out5 piece7 at8 t34 t35 m1_0 m1_1 m1_2)) := by kernel_rfl
noncomputable def f67c32 := codeAt (bodyOf Try.f67) [1,1,1,0,1,0,0,1,1,0,0,1,1,1,1,0,1,0,0,1]
noncomputable def f67p32 : Plan := .mk (some f67l8) none f67p33 .n
theorem f67t32 {ρ : Type} (N : Nat) (num3 : List Int) (den4 : List Int) (out5 : List Int) (piece7 : List Int) (at8 : Int) (t34 : Int) (t35 : Int) (m1_0 : Int) (m1_1 : Int) (m1_2 : List Int) (K : KT ρ) : f67i N f67c32 f67p32 (f67s8 num3 den4 out5 piece7 at8 t34 t35 m1_0 m1_1 m1_2) (joinK (some f67l8) K) =
  impl_factors.Z32 N num3 den4 out5 piece7 at8 t34 t35 m1_0 m1_1 m1_2 (fun num3 den4 out5 piece7 at8 t34 t35 m1_0 m1_1 m1_2 => K .nrm (f67s8 num3 den4 out5 piece7 at8 t34 t35 m1_0 m1_1 m1_2)) (fun t2 => K .ret (f67s21 t2)) :=
  viaSeq (fun k => impl_factors.Z33 N num3 den4 out5 piece7 at8 t34 t35 m1_0 m1_1 m1_2 k (fun t2 => K .ret (f67s21 t2))) (by kernel_rfl) (by kernel_rfl) (f67t33 N num3 den4 out5 piece7 at8 t34 t35 m1_0 m1_1 m1_2 (seqK (fun σ => f67i N f67c54 .n σ (joinK (some f67l8) K)) (joinK (some f67l8) K))) (funext fun num3 => funext fun den4 => funext fun out5 => funext fun piece7 => funext fun at8 => funext fun t34 => funext fun t35 => funext fun m1_0 => funext fun m1_1 => funext fun m1_2 => f67t54 N num3 den4 out5 piece7 at8 t34 t35 m1_0 m1_1 m1_2 K) (by kernel_rfl) (by kernel_rfl)
noncomputable def f67c30 := codeAt (bodyOf Try.f67) [1,1,1,0,1,0,0,1,1,0,0,1,1,1,1,0,1,0,0]
noncomputable def f67p30 : Plan := .mk (some f67l8) none .n f67p32
theorem f67t30 {ρ : Type} (N : Nat) (num3 : List Int) (den4 : List Int) (out5 : List Int) (piece7 : List Int) (at8 : Int) (t34 : Int) (t35 : Int) (m1_0 : Int) (m1_1 : Int) (m1_2 : List Int) (K : KT ρ) : f67i N f67c30 f67p30 (f67s8 num3 den4 out5 piece7 at8 t34 t35 m1_0 m1_1 m1_2) (joinK (some f67l8) K) =
  impl_factors.Z30 N num3 den4 out5 piece7 at8 t34 t35 m1_0 m1_1 m1_2 (fun num3 den4 out5 piece7 at8 t34 t35 m1_0 m1_1 m1_2 => K .nrm (f67s8 num3 den4 out5 piece7 at8 t34 t35 m1_0 m1_1 m1_2)) (fun num3 den4 out5 piece7 t34 t35 m1_0 m1_1 m1_2 => K (.exit 2) (f67s7 num3 den4 out5 piece7 t34 t35 m1_0 m1_1 m1_2)) (fun t2 => K .ret (f67s21 t2)) :=
  viaSeq (fun k => impl_factors.Z31 N num3 den4 out5 piece7 at8 t34 t35 m1_0 m1_1 m1_2 k (fun num3 den4 out5 piece7 t34 t35 m1_0 m1_1 m1_2 => K (.exit 2) (f67s7 num3 den4 out5 piece7 t34 t35 m1_0 m1_1 m1_2))) (by kernel_rfl) (by kernel_rfl) (f67t31 N num3 den4 out5 piece7 at8 t34 t35 m1_0 m1_1 m1_2 (seqK (fun σ => f67i N f67c32 f67p32 σ (joinK (some f67l8) K)) (joinK (some f67l8) K))) (funext fun num3 => funext fun den4 => funext fun out5 => funext fun piece7 => funext fun at8 => funext fun t34 => funext fun t35 => funext fun m1_0 => funext fun m1_1 => funext fun m1_2 => f67t32 N num3 den4 out5 piece7 at8 t34 t35 m1_0 m1_1 m1_2 K) (by kernel_rfl) (by kernel_rfl)
noncomputable def f67c29 := codeAt (bodyOf Try.f67) [1,1,1,0,1,0,0,1,1,0,0,1,1,1,1,0,1,0]
noncomputable def f67p29 : Plan := .mk none (some f67l8) f67p30 .n
noncomputable abbrev f67w29 {ρ : Type} (N : Nat) (M : Nat) (σ : St) (K : KT ρ) : Option ρ := loopC (fun σ K => f67i N f67c30 f67p30 σ K) f67l8 M σ K
theorem f67t29L {ρ : Type} (N : Nat) (K : KT ρ) : ∀ (M : Nat) (num3 : List Int) (den4 : List Int) (out5 : List Int) (piece7 : List Int) (at8 : Int) (t34 : Int) (t35 : Int) (m1_0 : Int) (m1_1 : Int) (m1_2 : List Int), f67w29 N M (f67s8 num3 den4 out5 piece7 at8 t34 t35 m1_0 m1_1 m1_2) K =
  impl_factors.Z29L N (fun num3 den4 out5 piece7 t34 t35 m1_0 m1_1 m1_2 => K (.exit 2) (f67s7 num3 den4 out5 piece7 t34 t35 m1_0 m1_1 m1_2)) (fun t2 => K .ret (f67s21 t2)) M num3 den4 out5 piece7 at8 t34 t35 m1_0 m1_1 m1_2
  | 0, _, _, _, _, _, _, _, _, _, _ => rfl
  | M + 1, num3, den4, out5, piece7, at8, t34, t35, m1_0, m1_1, m1_2 => viaRound (fun k => impl_factors.Z30 N num3 den4 out5 piece7 at8 t34 t35 m1_0 m1_1 m1_2 k (fun num3 den4 out5 piece7 t34 t35 m1_0 m1_1 m1_2 => K (.exit 2) (f67s7 num3 den4 out5 piece7 t34 t35 m1_0 m1_1 m1_2)) (fun t2 => K .ret (f67s21 t2))) (f67t30 N num3 den4 out5 piece7 at8 t34 t35 m1_0 m1_1 m1_2 (seqK (fun σ => f67w29 N M σ K) K)) (funext fun num3 => funext fun den4 => funext fun out5 => funext fun piece7 => funext fun at8 => funext fun t34 => funext fun t35 => funext fun m1_0 => funext fun m1_1 => funext fun m1_2 => f67t29L N K M num3 den4 out5 piece7 at8 t34 t35 m1_0 m1_1 m1_2) (by kernel_rfl) (by kernel_rfl)
theorem f67t29 {ρ : Type} (N : Nat) (num3 : List Int) (den4 : List Int) (out5 : List Int) (piece7 : List Int) (at8 : Int) (t34 : Int) (t35 : Int) (m1_0 : Int) (m1_1 : Int) (m1_2 : List Int) (K : KT ρ) : f67i N f67c29 f67p29 (f67s8 num3 den4 out5 piece7 at8 t34 t35 m1_0 m1_1 m1_2) (joinK (some f67l7) K) =
  impl_factors.Z29 N num3 den4 out5 piece7 at8 t34 t35 m1_0 m1_1 m1_2 (fun num3 den4 out5 piece7 t34 t35 m1_0 m1_1 m1_2 => K (.exit 2) (f67s7 num3 den4 out5 piece7 t34 t35 m1_0 m1_1 m1_2)) (fun t2 => K .ret (f67s21 t2)) :=
  viaLoop (by kernel_rfl) (by kernel_rfl) (σ' := f67s8 num3 den4 out5 piece7 at8 t34 t35 m1_0 m1_1 m1_2) (by kernel_rfl) (f67t29L N (joinK (some f67l7) K) N num3 den4 out5 piece7 at8 t34 t35 m1_0 m1_1 m1_2) (by kernel_rfl)
noncomputable def f67c28 := codeAt (bodyOf Try.f67) [1,1,1,0,1,0,0,1,1,0,0,1,1,1,1,0,1]
noncomputable def f67p28 : Plan := .mk (some f67l7) none f67p29 .n
theorem f67t28 {ρ : Type} (N : Nat) (num3 : List Int) (den4 : List Int) (out5 : List Int) (piece7 : List Int) (at8 : Int) (t34 : Int) (t35 : Int) (m1_0 : Int) (m1_1 : Int) (m1_2 : List Int) (K : KT ρ) : f67i N f67c28 f67p28 (f67s8 num3 den4 out5 piece7 at8 t34 t35 m1_0 m1_1 m1_2) (joinK (some f67l7) K) =
  impl_factors.Z28 N num3 den4 out5 piece7 at8 t34 t35 m1_0 m1_1 m1_2 (fun num3 den4 out5 piece7 t34 t35 m1_0 m1_1 m1_2 => K .nrm (f67s7 num3 den4 out5 piece7 t34 t35 m1_0 m1_1 m1_2)) (fun t2 => K .ret (f67s21 t2)) :=
  viaBlock (by kernel_rfl) (by kernel_rfl) (f67t29 N num3 den4 out5 piece7 at8 t34 t35 m1_0 m1_1 m1_2 (blockK 2 (joinK (some f67l7) K))) (by kernel_rfl)
noncomputable def f67c26 := codeAt (bodyOf Try.f67) [1,1,1,0,1,0,0,1,1,0,0,1,1,1,1,0]
noncomputable def f67p26 : Plan := .mk (some f67l8) none .n f67p28
theorem f67t26 {ρ : Type} (N : Nat) (num3 : List Int) (den4 : List Int) (out5 : List Int) (piece7 : List Int) (t34 : Int) (t35 : Int) (m1_0 : Int) (m1_1 : Int) (m1_2 : List Int) (K : KT ρ) : f67i N f67c26 f67p26 (f67s7 num3 den4 out5 piece7 t34 t35 m1_0 m1_1 m1_2) (joinK (some f67l7) K) =
  impl_factors.Z26 N num3 den4 out5 piece7 t34 t35 m1_0 m1_1 m1_2 (fun num3 den4 out5 piece7 t34 t35 m1_0 m1_1 m1_2 => K .nrm (f67s7 num3 den4 out5 piece7 t34 t35 m1_0 m1_1 m1_2)) (fun t2 => K .ret (f67s21 t2)) :=
  viaSeq (fun k => impl_factors.Z27 N num3 den4 out5 piece7 t34 t35 m1_0 m1_1 m1_2 k) (by kernel_rfl) (by kernel_rfl) (f67t27 N num3 den4 out5 piece7 t34 t35 m1_0 m1_1 m1_2 (seqK (fun σ => f67i N f67c28 f67p28 σ (joinK (some f67l7) K)) (joinK (some f67l7) K))) (funext fun num3 => funext fun den4 => funext fun out5 => funext fun piece7 => funext fun at8 => funext fun t34 => funext fun t35 => funext fun m1_0 => funext fun m1_1 => funext fun m1_2 => f67t28 N num3 den4 out5 piece7 at8 t34 t35 m1_0 m1_1 m1_2 K) (by kernel_rfl) (by kernel_rfl)
noncomputable def f67c56 := codeAt (bodyOf Try.f67) [1,1,1,0,1,0,0,1,1,0,0,1,1,1,1,1,0]
theorem f67t56 {ρ : Type} (N : Nat) (num3 : List Int) (den4 : List Int) (out5 : List Int) (piece7 : List Int) (t34 : Int) (t35 : Int) (m1_0 : Int) (m1_1 : Int) (m1_2 : List Int) (K : KT ρ) : f67i N f67c56 .n (f67s7 num3 den4 out5 piece7 t34 t35 m1_0 m1_1 m1_2) (joinK (some f67l14) K) =
  impl_factors.Z56 N num3 den4 out5 piece7 t34 t35 m1_0 m1_1 m1_2 (fun num3 den4 out5 piece7 common16 t34 t35 m1_0 m1_1 m1_2 => K .nrm (f67s14 num3 den4 out5 piece7 common16 t34 t35 m1_0 m1_1 m1_2)) := by kernel_rfl
noncomputable def f67c59 := codeAt (bodyOf Try.f67) [1,1,1,0,1,0,0,1,1,0,0,1,1,1,1,1,1,0,0]
theorem f67t59 {ρ : Type} (N : Nat) (num3 : List Int) (den4 : List Int) (out5 : List Int) (piece7 : List Int) (common16 : Int) (t34 : Int) (t35 : Int) (m1_0 : Int) (m1_1 : Int) (m1_2 : List Int) (K : KT ρ) : f67i N f67c59 .n (f67s14 num3 den4 out5 piece7 common16 t34 t35 m1_0 m1_1 m1_2) (joinK (some f67l15) K) =
  impl_factors.Z59 N num3 den4 out5 piece7 common16 t34 t35 m1_0 m1_1 m1_2 (fun num3 den4 out5 piece7 common16 t34 t35 t159 t160 m1_0 m1_1 m1_2 => K .nrm (f67s15 num3 den4 out5 piece7 common16 t34 t35 t159 t160 m1_0 m1_1 m1_2)) := by kernel_rfl
noncomputable def f67c62 := codeAt (bodyOf Try.f67) [1,1,1,0,1,0,0,1,1,0,0,1,1,1,1,1,1,0,1,0,0]
theorem f67t62 {ρ : Type} (N : Nat) (num3 : List Int) (den4 : List Int) (out5 : List Int) (piece7 : List Int) (common16 : Int) (t34 : Int) (t35 : Int) (t159 : Int) (t160 : Int) (m1_0 : Int) (m1_1 : Int) (m1_2 : List Int) (K : KT ρ) : f67i N f67c62 .n (f67s15 num3 den4 out5 piece7 common16 t34 t35 t159 t160 m1_0 m1_1 m1_2) (joinK (some f67l15) K) =
  impl_factors.Z62 N num3 den4 out5 piece7 common16 t34 t35 t159 t160 m1_0 m1_1 m1_2 (fun num3 den4 out5 piece7 common16 t34 t35 t159 t160 m1_0 m1_1 m1_2 => K .nrm (f67s15 num3 den4 out5 piece7 common16 t34 t35 t159 t160 m1_0 m1_1 m1_2)) (fun num3 den4 out5 piece7 common16 t34 t35 m1_0 m1_1 m1_2 => K (.exit 6) (f67s14 num3 den4 out5 piece7 common16 t34 t35 m1_0 m1_1 m1_2)) := by kernel_rfl
noncomputable def f67c61 := codeAt (bodyOf Try.f67) [1,1,1,0,1,0,0,1,1,0,0,1,1,1,1,1,1,0,1,0]
noncomputable def f67p61 : Plan := .mk none (some f67l15) .n .n
noncomputable abbrev f67w61 {ρ : Type} (N : Nat) (M : Nat) (σ : St) (K : KT ρ) : Option ρ := loopC (fun σ K => f67i N f67c62 .n σ K) f67l15 M σ K
theorem f67t61L {ρ : Type} (N : Nat) (K : KT ρ) : ∀ (M : Nat) (num3 : List Int) (den4 : List Int) (out5 : List Int) (piece7 : List Int) (common16 : Int) (t34 : Int) (t35 : Int) (t159 : Int) (t160 : Int) (m1_0 : Int) (m1_1 : Int) (m1_2 : List Int), f67w61 N M (f67s15 num3 den4 out5 piece7 common16 t34 t35 t159 t160 m1_0 m1_1 m1_2) K =
  impl_factors.Z61L N (fun num3 den4 out5 piece7 common16 t34 t35 m1_0 m1_1 m1_2 => K (.exit 6) (f67s14 num3 den4 out5 piece7 common16 t34 t35 m1_0 m1_1 m1_2)) M num3 den4 out5 piece7 common16 t34 t35 t159 t160 m1_0 m1_1 m1_2
  | 0, _, _, _, _, _, _, _, _, _, _, _, _ => rfl
  | M + 1, num3, den4, out5, piece7, common16, t34, t35, t159, t160, m1_0, m1_1, m1_2 => viaRound (fun k => impl_factors.Z62 N num3 den4 out5 piece7 common16 t34 t35 t159 t160 m1_0 m1_1 m1_2 k (fun num3 den4 out5 piece7 common16 t34 t35 m1_0 m1_1 m1_2 => K (.exit 6) (f67s14 num3 den4 out5 piece7 common16 t34 t35 m1_0 m1_1 m1_2))) (f67t62 N num3 den4 out5 piece7 common16 t34 t35 t159 t160 m1_0 m1_1 m1_2 (seqK (fun σ => f67w61 N M σ K) K)) (funext fun num3 => funext fun den4 => funext fun out5 => funext fun piece7 => funext fun common16 => funext fun t34 => funext fun t35 => funext fun t159 => funext fun t160 => funext fun m1_0 => funext fun m1_1 => funext fun m1_2 => f67t61L N K M num3 den4 out5 piece7 common16 t34 t35 t159 t160 m1_0 m1_1 m1_2) (by kernel_rfl) (by kernel_rfl)
theorem f67t61 {ρ : Type} (N : Nat) (num3 : List Int) (den4 : List Int) (out5 : List Int) (piece7 : List Int) (common16 : Int) (t34 : Int) (t35 : Int) (t159 : Int) (t160 : Int) (m1_0 : Int) (m1_1 : Int) (m1_2 : List Int) (K : KT ρ) : f67i N f67c61 f67p61 (f67s15 num3 den4 out5 piece7 common16 t34 t35 t159 t160 m1_0 m1_1 m1_2) (joinK (some f67l14) K) =
  impl_factors.Z61 N num3 den4 out5 piece7 common16 t34 t35 t159 t160 m1_0 m1_1 m1_2 (fun num3 den4 out5 piece7 common16 t34 t35 m1_0 m1_1 m1_2 => K (.exit 6) (f67s14 num3 den4 out5 piece7 common16 t34 t35 m1_0 m1_1 m1_2)) :=
  viaLoop (by kernel_rfl) (by kernel_rfl) (σ' := f67s15 num3 den4 out5 piece7 common16 t34 t35 t159 t160 m1_0 m1_1 m1_2) (by kernel_rfl) (f67t61L N (joinK (some f67l14) K) N num3 den4 out5 piece7 common16 t34 t35 t159 t160 m1_0 m1_1 m1_2) (by kernel_rfl)
noncomputable def f67c60 := codeAt (bodyOf Try.f67) [1,1,1,0,1,0,0,1,1,0,0,1,1,1,1,1,1,0,1]
noncomputable def f67p60 : Plan := .mk (some f67l14) none f67p61 .n
theorem f67t60 {ρ : Type} (N : Nat) (num3 : List Int) (den4 : List Int) (out5 : List Int) (piece7 : List Int) (common16 : Int) (t34 : Int) (t35 : Int) (t159 : Int) (t160 : Int) (m1_0 : Int) (m1_1 : Int) (m1_2 : List Int) (K : KT ρ) : f67i N f67c60 f67p60 (f67s15 num3 den4 out5 piece7 common16 t34 t35 t159 t160 m1_0 m1_1 m1_2) (joinK (some f67l14) K) =
  impl_factors.Z60 N num3 den4 out5 piece7 common16 t34 t35 t159 t160 m1_0 m1_1 m1_2 (fun num3 den4 out5 piece7 common16 t34 t35 m1_0 m1_1 m1_2 => K .nrm (f67s14 num3 den4 out5 piece7 common16 t34 t35 m1_0 m1_1 m1_2)) :=
  viaBlock (by kernel_rfl) (by kernel_rfl) (f67t61 N num3 den4 out5 piece7 common16 t34 t35 t159 t160 m1_0 m1_1 m1_2 (blockK 6 (joinK (some f67l14) K))) (by kernel_rfl)
noncomputable def f67c58 := codeAt (bodyOf Try.f67) [1,1,1,0,1,0,0,1,1,0,0,1,1,1,1,1,1,0]
noncomputable def f67p58 : Plan := .mk (some f67l15) none .n f67p60
theorem f67t58 {ρ : Type} (N : Nat) (num3 : List Int) (den4 : List Int) (out5 : List Int) (piece7 : List Int) (common16 : Int) (t34 : Int) (t35 : Int) (m1_0 : Int) (m1_1 : Int) (m1_2 : List Int) (K : KT ρ) : f67i N f67c58 f67p58 (f67s14 num3 den4 out5 piece7 common16 t34 t35 m1_0 m1_1 m1_2) (joinK (some f67l14) K) =
  impl_factors.Z58 N num3 den4 out5 piece7 common16 t34 t35 m1_0 m1_1 m1_2 (fun num3 den4 out5 piece7 common16 t34 t35 m1_0 m1_1 m1_2 => K .nrm (f67s14 num3 den4 out5 piece7 common16 t34 t35 m1_0 m1_1 m1_2)) :=
  viaSeq (fun k => impl_factors.Z59 N num3 den4 out5 piece7 common16 t34 t35 m1_0 m1_1 m1_2 k) (by kernel_rfl) (by kernel_rfl) (f67t59 N num3 den4 out5 piece7 common16 t34 t35 m1_0 m1_1 m1_2 (seqK (fun σ => f67i N f67c60 f67p60 σ (joinK (some f67l14) K)) (joinK (some f67l14) K))) (funext fun num3 => funext fun den4 => funext fun out5 => funext fun piece7 => funext fun common16 => funext fun t34 => funext fun t35 => funext fun t159 => funext fun t160 => funext fun m1_0 => funext fun m1_1 => funext fun m1_2 => f67t60 N num3 den4 out5 piece7 common16 t34 t35 t159 t160 m1_0 m1_1 m1_2 K) (by kernel_rfl) (by kernel_rfl)
noncomputable def f67c64 := codeAt (bodyOf Try.f67) [1,1,1,0,1,0,0,1,1,0,0,1,1,1,1,1,1,1,0]
theorem f67t64 {ρ : Type} (N : Nat) (num3 : List Int) (den4 : List Int) (out5 : List Int) (piece7 : List Int) (common16 : Int) (t34 : Int) (t35 : Int) (m1_0 : Int) (m1_1 : Int) (m1_2 : List Int) (K : KT ρ) : f67i N f67c64 .n (f67s14 num3 den4 out5 piece7 common16 t34 t35 m1_0 m1_1 m1_2) (joinK (some f67l16) K) =
  impl_factors.Z64 N num3 den4 out5 piece7 common16 t34 t35 m1_0 m1_1 m1_2 (fun num3 den4 out5 piece7 common16 g19 t34 t35 m1_0 m1_1 m1_2 => K .nrm (f67s16 num3 den4 out5 piece7 common16 g19 t34 t35 m1_0 m1_1 m1_2)) := by kernel_rfl
noncomputable def f67c67 := codeAt (bodyOf Try.f67) [1,1,1,0,1,0,0,1,1,0,0,1,1,1,1,1,1,1,1,0,0]
theorem f67t67 {ρ : Type} (N : Nat) (num3 : List Int) (den4 : List Int) (out5 : List Int) (piece7 : List Int) (common16 : Int) (g19 : Int) (t34 : Int) (t35 : Int) (m1_0 : Int) (m1_1 : Int) (m1_2 : List Int) (K : KT ρ) : f67i N f67c67 .n (f67s16 num3 den4 out5 piece7 common16 g19 t34 t35 m1_0 m1_1 m1_2) (joinK (some f67l17) K) =
  impl_factors.Z67 N num3 den4 out5 piece7 common16 g19 t34 t35 m1_0 m1_1 m1_2 (fun num3 den4 out5 piece7 common16 g19 t34 t35 t179 t180 m1_0 m1_1 m1_2 => K .nrm (f67s17 num3 den4 out5 piece7 common16 g19 t34 t35 t179 t180 m1_0 m1_1 m1_2)) := by kernel_rfl
noncomputable def f67c70 := codeAt (bodyOf Try.f67) [1,1,1,0,1,0,0,1,1,0,0,1,1,1,1,1,1,1,1,0,1,0,0]
theorem f67t70 {ρ : Type} (N : Nat) (num3 : List Int) (den4 : List Int) (out5 : List Int) (piece7 : List Int) (common16 : Int) (g19 : Int) (t34 : Int) (t35 : Int) (t179 : Int) (t180 : Int) (m1_0 : Int) (m1_1 : Int) (m1_2 : List Int) (K : KT ρ) : f67i N f67c70 .n (f67s17 num3 den4 out5 piece7 common16 g19 t34 t35 t179 t180 m1_0 m1_1 m1_2) (joinK (some f67l17) K) =
  impl_factors.Z70 N num3 den4 out5 piece7 common16 g19 t34 t35 t179 t180 m1_0 m1_1 m1_2 (fun num3 den4 out5 piece7 common16 g19 t34 t35 t179 t180 m1_0 m1_1 m1_2 => K .nrm (f67s17 num3 den4 out5 piece7 common16 g19 t34 t35 t179 t180 m1_0 m1_1 m1_2)) (fun num3 den4 out5 piece7 g19 t34 t35 m1_0 m1_1 m1_2 => K (.exit 8) (f67s18 num3 den4 out5 piece7 g19 t34 t35 m1_0 m1_1 m1_2)) := by kernel_rfl
noncomputable def f67c69 := codeAt (bodyOf Try.f67) [1,1,1,0,1,0,0,1,1,0,0,1,1,1,1,1,1,1,1,0,1,0]
noncomputable def f67p69 : Plan := .mk none (some f67l17) .n .n
noncomputable abbrev f67w69 {ρ : Type} (N : Nat) (M : Nat) (σ : St) (K : KT ρ) : Option ρ := loopC (fun σ K => f67i N f67c70 .n σ K) f67l17 M σ K
theorem f67t69L {ρ : Type} (N : Nat) (K : KT ρ) : ∀ (M : Nat) (num3 : List Int) (den4 : List Int) (out5 : List Int) (piece7 : List Int) (common16 : Int) (g19 : Int) (t34 : Int) (t35 : Int) (t179 : Int) (t180 : Int) (m1_0 : Int) (m1_1 : Int) (m1_2 : List Int), f67w69 N M (f67s17 num3 den4 out5 piece7 common16 g19 t34 t35 t179 t180 m1_0 m1_1 m1_2) K =
  impl_factors.Z69L N (fun num3 den4 out5 piece7 g19 t34 t35 m1_0 m1_1 m1_2 => K (.exit 8) (f67s18 num3 den4 out5 piece7 g19 t34 t35 m1_0 m1_1 m1_2)) M num3 den4 out5 piece7 common16 g19 t34 t35 t179 t180 m1_0 m1_1 m1_2
  | 0, _, _, _, _, _, _, _, _, _, _, _, _, _ => rfl
  | M + 1, num3, den4, out5, piece7, common16, g19, t34, t35, t179, t180, m1_0, m1_1, m1_2 => viaRound (fun k => impl_factors.Z70 N num3 den4 out5 piece7 common16 g19 t34 t35 t179 t180 m1_0 m1_1 m1_2 k (fun num3 den4 out5 piece7 g19 t34 t35 m1_0 m1_1 m1_2 => K (.exit 8) (f67s18 num3 den4 out5 piece7 g19 t34 t35 m1_0 m1_1 m1_2))) (f67t70 N num3 den4 out5 piece7 common16 g19 t34 t35 t179 t180 m1_0 m1_1 m1_2 (seqK (fun σ => f67w69 N M σ K) K)) (funext fun num3 => funext fun den4 => funext fun out5 => funext fun piece7 => funext fun common16 => funext fun g19 => funext fun t34 => funext fun t35 => funext fun t179 => funext fun t180 => funext fun m1_0 => funext fun m1_1 => funext fun m1_2 => f67t69L N K M num3 den4 out5 piece7 common16 g19 t34 t35 t179 t180 m1_0 m1_1 m1_2) (by kernel_rfl) (by kernel_rfl)
theorem f67t69 {ρ : Type} (N : Nat) (num3 : List Int) (den4 : List Int) (out5 : List Int) (piece7 : List Int) (common16 : Int) (g19 : Int) (t34 : Int) (t35 : Int) (t179 : Int) (t180 : Int) (m1_0 : Int) (m1_1 : Int) (m1_2 : List Int) (K : KT ρ) : f67i N f67c69 f67p69 (f67s17 num3 den4 out5 piece7 common16 g19 t34 t35 t179 t180 m1_0 m1_1 m1_2) (joinK (some f67l18) K) =
  impl_factors.Z69 N num3 den4 out5 piece7 common16 g19 t34 t35 t179 t180 m1_0 m1_1 m1_2 (fun num3 den4 out5 piece7 g19 t34 t35 m1_0 m1_1 m1_2 => K (.exit 8) (f67s18 num3 den4 out5 piece7 g19 t34 t35 m1_0 m1_1 m1_2)) :=
  viaLoop (by kernel_rfl) (by kernel_rfl) (σ' := f67s17 num3 den4 out5 piece7 common16 g19 t34 t35 t179 t180 m1_0 m1_1 m1_2) (by kernel_rfl) (f67t69L N (joinK (some f67l18) K) N num3 den4 out5 piece7 common16 g19 t34 t35 t179 t180 m1_0 m1_1 m1_2) (by kernel_rfl)
noncomputable def f67c68 := codeAt (bodyOf Try.f67) [1,1,1,0,1,0,0,1,1,0,0,1,1,1,1,1,1,1,1,0,1]
noncomputable def f67p68 : Plan := .mk (some f67l18) none f67p69 .n
theorem f67t68 {ρ : Type} (N : Nat) (num3 : List Int) (den4 : List Int) (out5 : List Int) (piece7 : List Int) (common16 : Int) (g19 : Int) (t34 : Int) (t35 : Int) (t179 : Int) (t180 : Int) (m1_0 : Int) (m1_1 : Int) (m1_2 : List Int) (K : KT ρ) : f67i N f67c68 f67p68 (f67s17 num3 den4 out5 piece7 common16 g19 t34 t35 t179 t180 m1_0 m1_1 m1_2) (joinK (some f67l18) K) =
  impl_factors.Z68 N num3 den4 out5 piece7 common16 g19 t34 t35 t179 t180 m1_0 m1_1 m1_2 (fun num3 den4 out5 piece7 g19 t34 t35 m1_0 m1_1 m1_2 => K .nrm (f67s18 num3 den4 out5 piece7 g19 t34 t35 m1_0 m1_1 m1_2)) :=
  viaBlock (by kernel_rfl) (by kernel_rfl) (f67t69 N num3 den4 out5 piece7 common16 g19 t34 t35 t179 t180 m1_0 m1_1 m1_2 (blockK 8 (joinK (some f67l18) K))) (by kernel_rfl)
noncomputable def f67c66 := codeAt (bodyOf Try.f67) [1,1,1,0,1,0,0,1,1,0,0,1,1,1,1,1,1,1,1,0]
noncomputable def f67p66 : Plan := .mk (some f67l17) none .n f67p68
theorem f67t66 {ρ : Type} (N : Nat) (num3 : List Int) (den4 : List Int) (out5 : List Int) (piece7 : List Int) (common16 : Int) (g19 : Int) (t34 : Int) (t35 : Int) (m1_0 : Int) (m1_1 : Int) (m1_2 : List Int) (K : KT ρ) : f67i N f67c66 f67p66 (f67s16 num3 den4 out5 piece7 common16 g19 t34 t35 m1_0 m1_1 m1_2) (joinK (some f67l18) K) =
  impl_factors.Z66 N num3 den4 out5 piece7 common16 g19 t34 t35 m1_0 m1_1 m1_2 (fun num3 den4 out5 piece7 g19 t34 t35 m1_0 m1_1 m1_2 => K .nrm (f67s18 num3 den4 out5 piece7 g19 t34 t35 m1_0 m1_1 m1_2)) :=
  viaSeq (fun k => impl_factors.Z67 N num3 den4 out5 piece7 common16 g19 t34 t35 m1_0 m1_1 m1_2 k) (by kernel_rfl) (by kernel_rfl) (f67t67 N num3 den4 out5 piece7 common16 g19 t34 t35 m1_0 m1_1 m1_2 (seqK (fun σ => f67i N f67c68 f67p68 σ (joinK (some f67l18) K)) (joinK (some f67l18) K))) (funext fun num3 => funext fun den4 => funext fun out5 => funext fun piece7 => funext fun common16 => funext fun g19 => funext fun t34 => funext fun t35 => funext fun t179 => funext fun t180 => funext fun m1_0 => funext fun m1_1 => funext fun m1_2 => f67t68 N num3 den4 out5 piece7 common16 g19 t34 t35 t179 t180 m1_0 m1_1 m1_2 K) (by kernel_rfl) (by kernel_rfl)
noncomputable def f67c72 := codeAt (bodyOf Try.f67) [1,1,1,0,1,0,0,1,1,0,0,1,1,1,1,1,1,1,1,1,0]
theorem f67t72 {ρ : Type} (N : Nat) (num3 : List Int) (den4 : List Int) (out5 : List Int) (piece7 : List Int) (g19 : Int) (t34 : Int) (t35 : Int) (m1_0 : Int) (m1_1 : Int) (m1_2 : List Int) (K : KT ρ) : f67i N f67c72 .n (f67s18 num3 den4 out5 piece7 g19 t34 t35 m1_0 m1_1 m1_2) (joinK (some f67l19) K) =
  impl_factors.Z72 N num3 den4 out5 piece7 g19 t34 t35 m1_0 m1_1 m1_2 (fun num3 den4 out5 t205 g19 t34 t35 t206 t207 m1_0 m1_1 m1_2 => K .nrm (f67s19 num3 den4 out5 t205 g19 t34 t35 t206 t207 m1_0 m1_1 m1_2)) := by kernel_rfl
noncomputable def f67c75 := codeAt (bodyOf Try.f67) [1,1,1,0,1,0,0,1,1,0,0,1,1,1,1,1,1,1,1,1,1,0,0]
theorem f67t75 {ρ : Type} (N : Nat) (num3 : List Int) (den4 : List Int) (out5 : List Int) (t205 : List Int) (g19 : Int) (t34 : Int) (t35 : Int) (t206 : Int) (t207 : Int) (m1_0 : Int) (m1_1 : Int) (m1_2 : List Int) (K : KT ρ) : f67i N f67c75 .n (f67s19 num3 den4 out5 t205 g19 t34 t35 t206 t207 m1_0 m1_1 m1_2) (joinK (some f67l19) K) =
  impl_factors.Z75 N num3 den4 out5 t205 g19 t34 t35 t206 t207 m1_0 m1_1 m1_2 (fun num3 den4 out5 t205 g19 t34 t35 t206 t207 m1_0 m1_1 m1_2 => K .nrm (f67s19 num3 den4 out5 t205 g19 t34 t35 t206 t207 m1_0 m1_1 m1_2)) (fun num3 den4 out5 t34 t35 m1_0 m1_1 m1_2 => K (.exit 10) (f67s4 num3 den4 out5 t34 t35 m1_0 m1_1 m1_2)) := by kernel_rfl
noncomputable def f67c74 := codeAt (bodyOf Try.f67) [1,1,1,0,1,0,0,1,1,0,0,1,1,1,1,1,1,1,1,1,1,0]
noncomputable def f67p74 : Plan := .mk none (some f67l19) .n .n
noncomputable abbrev f67w74 {ρ : Type} (N : Nat) (M : Nat) (σ : St) (K : KT ρ) : Option ρ := loopC (fun σ K => f67i N f67c75 .n σ K) f67l19 M σ K
theorem f67t74L {ρ : Type} (N : Nat) (K : KT ρ) : ∀ (M : Nat) (num3 : List Int) (den4 : List Int) (out5 : List Int) (t205 : List Int) (g19 : Int) (t34 : Int) (t35 : Int) (t206 : Int) (t207 : Int) (m1_0 : Int) (m1_1 : Int) (m1_2 : List Int), f67w74 N M (f67s19 num3 den4 out5 t205 g19 t34 t35 t206 t207 m1_0 m1_1 m1_2) K =
  impl_factors.Z74L N (fun num3 den4 out5 t34 t35 m1_0 m1_1 m1_2 => K (.exit 10) (f67s4 num3 den4 out5 t34 t35 m1_0 m1_1 m1_2)) M num3 den4 out5 t205 g19 t34 t35 t206 t207 m1_0 m1_1 m1_2
  | 0, _, _, _, _, _, _, _, _, _, _, _, _ => rfl
  | M + 1, num3, den4, out5, t205, g19, t34, t35, t206, t207, m1_0, m1_1, m1_2 => viaRound (fun k => impl_factors.Z75 N num3 den4 out5 t205 g19 t34 t35 t206 t207 m1_0 m1_1 m1_2 k (fun num3 den4 out5 t34 t35 m1_0 m1_1 m1_2 => K (.exit 10) (f67s4 num3 den4 out5 t34 t35 m1_0 m1_1 m1_2))) (f67t75 N num3 den4 out5 t205 g19 t34 t35 t206 t207 m1_0 m1_1 m1_2 (seqK (fun σ => f67w74 N M σ K) K)) (funext fun num3 => funext fun den4 => funext fun out5 => funext fun t205 => funext fun g19 => funext fun t34 => funext fun t35 => funext fun t206 => funext fun t207 => funext fun m1_0 => funext fun m1_1 => funext fun m1_2 => f67t74L N K M num3 den4 out5 t205 g19 t34 t35 t206 t207 m1_0 m1_1 m1_2) (by kernel_rfl) (by kernel_rfl)
theorem f67t74 {ρ : Type} (N : Nat) (num3 : List Int) (den4 : List Int) (out5 : List Int) (t205 : List Int) (g19 : Int) (t34 : Int) (t35 : Int) (t206 : Int) (t207 : Int) (m1_0 : Int) (m1_1 : Int) (m1_2 : List Int) (K : KT ρ) : f67i N f67c74 f67p74 (f67s19 num3 den4 out5 t205 g19 t34 t35 t206 t207 m1_0 m1_1 m1_2) (joinK (some f67l4) K) =
  impl_factors.Z74 N num3 den4 out5 t205 g19 t34 t35 t206 t207 m1_0 m1_1 m1_2 (fun num3 den4 out5 t34 t35 m1_0 m1_1 m1_2 => K (.exit 10) (f67s4 num3 den4 out5 t34 t35 m1_0 m1_1 m1_2)) :=
  viaLoop (by kernel_rfl) (by kernel_rfl) (σ' := f67s19 num3 den4 out5 t205 g19 t34 t35 t206 t207 m1_0 m1_1 m1_2) (by kernel_rfl) (f67t74L N (joinK (some f67l4) K) N num3 den4 out5 t205 g19 t34 t35 t206 t207 m1_0 m1_1 m1_2) (by kernel_rfl)
noncomputable def f67c73 := codeAt (bodyOf Try.f67) [1,1,1,0,1,0,0,1,1,0,0,1,1,1,1,1,1,1,1,1,1]
noncomputable def f67p73 : Plan := .mk (some f67l4) none f67p74 .n
theorem f67t73 {ρ : Type} (N : Nat) (num3 : List Int) (den4 : List Int) (out5 : List Int) (t205 : List Int) (g19 : Int) (t34 : Int) (t35 : Int) (t206 : Int) (t207 : Int) (m1_0 : Int) (m1_1 : Int) (m1_2 : List Int) (K : KT ρ) : f67i N f67c73 f67p73 (f67s19 num3 den4 out5 t205 g19 t34 t35 t206 t207 m1_0 m1_1 m1_2) (joinK (some f67l4) K) =
  impl_factors.Z73 N num3 den4 out5 t205 g19 t34 t35 t206 t207 m1_0 m1_1 m1_2 (fun num3 den4 out5 t34 t35 m1_0 m1_1 m1_2 => K .nrm (f67s4 num3 den4 out5 t34 t35 m1_0 m1_1 m1_2)) :=
  viaBlock (by kernel_rfl) (by kernel_rfl) (f67t74 N num3 den4 out5 t205 g19 t34 t35 t206 t207 m1_0 m1_1 m1_2 (blockK 10 (joinK (some f67l4) K))) (by kernel_rfl)
noncomputable def f67c71 := codeAt (bodyOf Try.f67) [1,1,1,0,1,0,0,1,1,0,0,1,1,1,1,1,1,1,1,1]
noncomputable def f67p71 : Plan := .mk (some f67l19) none .n f67p73
theorem f67t71 {ρ : Type} (N : Nat) (num3 : List Int) (den4 : List Int) (out5 : List Int) (piece7 : List Int) (g19 : Int) (t34 : Int) (t35 : Int) (m1_0 : Int) (m1_1 : Int) (m1_2 : List Int) (K : KT ρ) : f67i N f67c71 f67p71 (f67s18 num3 den4 out5 piece7 g19 t34 t35 m1_0 m1_1 m1_2) (joinK (some f67l4) K) =
  impl_factors.Z71 N num3 den4 out5 piece7 g19 t34 t35 m1_0 m1_1 m1_2 (fun num3 den4 out5 t34 t35 m1_0 m1_1 m1_2 => K .nrm (f67s4 num3 den4 out5 t34 t35 m1_0 m1_1 m1_2)) :=
  viaSeq (fun k => impl_factors.Z72 N num3 den4 out5 piece7 g19 t34 t35 m1_0 m1_1 m1_2 k) (by kernel_rfl) (by kernel_rfl) (f67t72 N num3 den4 out5 piece7 g19 t34 t35 m1_0 m1_1 m1_2 (seqK (fun σ => f67i N f67c73 f67p73 σ (joinK (some f67l4) K)) (joinK (some f67l4) K))) (funext fun num3 => funext fun den4 => funext fun out5 => funext fun t205 => funext fun g19 => funext fun t34 => funext fun t35 => funext fun t206 => funext fun t207 => funext fun m1_0 => funext fun m1_1 => funext fun m1_2 => f67t73 N num3 den4 out5 t205 g19 t34 t35 t206 t207 m1_0 m1_1 m1_2 K) (by kernel_rfl) (by kernel_rfl)
noncomputable def f67c65 := codeAt (bodyOf Try.f67) [1,1,1,0,1,0,0,1,1,0,0,1,1,1,1,1,1,1,1]
noncomputable def f67p65 : Plan := .mk (some f67l18) none f67p66 f67p71
theorem f67t65 {ρ : Type} (N : Nat) (num3 : List Int) (den4 : List Int) (out5 : List Int) (piece7 : List Int) (common16 : Int) (g19 : Int) (t34 : Int) (t35 : Int) (m1_0 : Int) (m1_1 : Int) (m1_2 : List Int) (K : KT ρ) : f67i N f67c65 f67p65 (f67s16 num3 den4 out5 piece7 common16 g19 t34 t35 m1_0 m1_1 m1_2) (joinK (some f67l4) K) =
  impl_factors.Z65 N num3 den4 out5 piece7 common16 g19 t34 t35 m1_0 m1_1 m1_2 (fun num3 den4 out5 t34 t35 m1_0 m1_1 m1_2 => K .nrm (f67s4 num3 den4 out5 t34 t35 m1_0 m1_1 m1_2)) :=
  viaSeq (fun k => impl_factors.Z66 N num3 den4 out5 piece7 common16 g19 t34 t35 m1_0 m1_1 m1_2 k) (by kernel_rfl) (by kernel_rfl) (f67t66 N num3 den4 out5 piece7 common16 g19 t34 t35 m1_0 m1_1 m1_2 (seqK (fun σ => f67i N f67c71 f67p71 σ (joinK (some f67l4) K)) (joinK (some f67l4) K))) (funext fun num3 => funext fun den4 => funext fun out5 => funext fun piece7 => funext fun g19 => funext fun t34 => funext fun t35 => funext fun m1_0 => funext fun m1_1 => funext fun m1_2 => f67t71 N num3 den4 out5 piece7 g19 t34 t35 m1_0 m1_1 m1_2 K) (by kernel_rfl) (by kernel_rfl)
noncomputable def f67c63 := codeAt (bodyOf Try.f67) [1,1,1,0,1,0,0,1,1,0,0,1,1,1,1,1,1,1]
noncomputable def f67p63 : Plan := .mk (some f67l16) none .n f67p65
theorem f67t63 {ρ : Type} (N : Nat) (num3 : List Int) (den4 : List Int) (out5 : List Int) (piece7 : List Int) (common16 : Int) (t34 : Int) (t35 : Int) (m1_0 : Int) (m1_1 : Int) (m1_2 : List Int) (K : KT ρ) : f67i N f67c63 f67p63 (f67s14 num3 den4 out5 piece7 common16 t34 t35 m1_0 m1_1 m1_2) (joinK (some f67l4) K) =
  impl_factors.Z63 N num3 den4 out5 piece7 common16 t34 t35 m1_0 m1_1 m1_2 (fun num3 den4 out5 t34 t35 m1_0 m1_1 m1_2 => K .nrm (f67s4 num3 den4 out5 t34 t35 m1_0 m1_1 m1_2)) :=
  viaSeq (fun k => impl_factors.Z64 N num3 den4 out5 piece7 common16 t34 t35 m1_0 m1_1 m1_2 k) (by kernel_rfl) (by kernel_rfl) (f67t64 N num3 den4 out5 piece7 common16 t34 t35 m1_0 m1_1 m1_2 (seqK (fun σ => f67i N f67c65 f67p65 σ (joinK (some f67l4) K)) (joinK (some f67l4) K))) (funext fun num3 => funext fun den4 => funext fun out5 => funext fun piece7 => funext fun common16 => funext fun g19 => funext fun t34 => funext fun t35 => funext fun m1_0 => funext fun m1_1 => funext fun m1_2 => f67t65 N num3 den4 out5 piece7 common16 g19 t34 t35 m1_0 m1_1 m1_2 K) (by kernel_rfl) (by kernel_rfl)
noncomputable def f67c57 := codeAt (bodyOf Try.f67) [1,1,1,0,1,0,0,1,1,0,0,1,1,1,1,1,1]
noncomputable def f67p57 : Plan := .mk (some f67l14) none f67p58 f67p63
theorem f67t57 {ρ : Type} (N : Nat) (num3 : List Int) (den4 : List Int) (out5 : List Int) (piece7 : List Int) (common16 : Int) (t34 : Int) (t35 : Int) (m1_0 : Int) (m1_1 : Int) (m1_2 : List Int) (K : KT ρ) : f67i N f67c57 f67p57 (f67s14 num3 den4 out5 piece7 common16 t34 t35 m1_0 m1_1 m1_2) (joinK (some f67l4) K) =
  impl_factors.Z57 N num3 den4 out5 piece7 common16 t34 t35 m1_0 m1_1 m1_2 (fun num3 den4 out5 t34 t35 m1_0 m1_1 m1_2 => K .nrm (f67s4 num3 den4 out5 t34 t35 m1_0 m1_1 m1_2)) :=
  viaSeq (fun k => impl_factors.Z58 N num3 den4 out5 piece7 common16 t34 t35 m1_0 m1_1 m1_2 k) (by kernel_rfl) (by kernel_rfl) (f67t58 N num3 den4 out5 piece7 common16 t34 t35 m1_0 m1_1 m1_2 (seqK (fun σ => f67i N f67c63 f67p63 σ (joinK (some f67l4) K)) (joinK (some f67l4) K))) (funext fun num3 => funext fun den4 => funext fun out5 => funext fun piece7 => funext fun common16 => funext fun t34 => funext fun t35 => funext fun m1_0 => funext fun m1_1 => funext fun m1_2 => f67t63 N num3 den4 out5 piece7 common16 t34 t35 m1_0 m1_1 m1_2 K) (by kernel_rfl) (by kernel_rfl)
noncomputable def f67c55 := codeAt (bodyOf Try.f67) [1,1,1,0,1,0,0,1,1,0,0,1,1,1,1,1]
noncomputable def f67p55 : Plan := .mk (some f67l14) none .n f67p57
theorem f67t55 {ρ : Type} (N : Nat) (num3 : List Int) (den4 : List Int) (out5 : List Int) (piece7 : List Int) (t34 : Int) (t35 : Int) (m1_0 : Int) (m1_1 : Int) (m1_2 : List Int) (K : KT ρ) : f67i N f67c55 f67p55 (f67s7 num3 den4 out5 piece7 t34 t35 m1_0 m1_1 m1_2) (joinK (some f67l4) K) =
  impl_factors.Z55 N num3 den4 out5 piece7 t34 t35 m1_0 m1_1 m1_2 (fun num3 den4 out5 t34 t35 m1_0 m1_1 m1_2 => K .nrm (f67s4 num3 den4 out5 t34 t35 m1_0 m1_1 m1_2)) :=
  viaSeq (fun k => impl_factors.Z56 N num3 den4 out5 piece7 t34 t35 m1_0 m1_1 m1_2 k) (by kernel_rfl) (by kernel_rfl) (f67t56 N num3 den4 out5 piece7 t34 t35 m1_0 m1_1 m1_2 (seqK (fun σ => f67i N f67c57 f67p57 σ (joinK (some f67l4) K)) (joinK (some f67l4) K))) (funext fun num3 => funext fun den4 => funext fun out5 => funext fun piece7 => funext fun common16 => funext fun t34 => funext fun t35 => funext fun m1_0 => funext fun m1_1 => funext fun m1_2 => f67t57 N num3 den4 out5 piece7 common16 t34 t35 m1_0 m1_1 m1_2 K) (by kernel_rfl) (by kernel_rfl)
noncomputable def f67c25 := codeAt (bodyOf Try.f67) [1,1,1,0,1,0,0,1,1,0,0,1,1,1,1]
noncomputable def f67p25 : Plan := .mk (some f67l7) none f67p26 f67p55
theorem f67t25 {ρ : Type} (N : Nat) (num3 : List Int) (den4 : List Int) (out5 : List Int) (piece7 : List Int) (t34 : Int) (t35 : Int) (m1_0 : Int) (m1_1 : Int) (m1_2 : List Int) (K : KT ρ) : f67i N f67c25 f67p25 (f67s7 num3 den4 out5 piece7 t34 t35 m1_0 m1_1 m1_2) (joinK (some f67l4) K) =
  impl_factors.Z25 N num3 den4 out5 piece7 t34 t35 m1_0 m1_1 m1_2 (fun num3 den4 out5 t34 t35 m1_0 m1_1 m1_2 => K .nrm (f67s4 num3 den4 out5 t34 t35 m1_0 m1_1 m1_2)) (fun t2 => K .ret (f67s21 t2)) :=
  viaSeq (fun k => impl_factors.Z26 N num3 den4 out5 piece7 t34 t35 m1_0 m1_1 m1_2 k (fun t2 => K .ret (f67s21 t2))) (by kernel_rfl) (by kernel_rfl) (f67t26 N num3 den4 out5 piece7 t34 t35 m1_0 m1_1 m1_2 (seqK (fun σ => f67i N f67c55 f67p55 σ (joinK (some f67l4) K)) (joinK (some f67l4) K))) (funext fun num3 => funext fun den4 => funext fun out5 => funext fun piece7 => funext fun t34 => funext fun t35 => funext fun m1_0 => funext fun m1_1 => funext fun m1_2 => f67t55 N num3 den4 out5 piece7 t34 t35 m1_0 m1_1 m1_2 K) (by kernel_rfl) (by kernel_rfl)
noncomputable def f67c23 := codeAt (bodyOf Try.f67) [1,1,1,0,1,0,0,1,1,0,0,1,1,1]
noncomputable def f67p23 : Plan := .mk (some f67l7) none .n f67p25
theorem f67t23 {ρ : Type} (N : Nat) (num3 : List Int) (den4 : List Int) (out5 : List Int) (s6 : Int) (t34 : Int) (t35 : Int) (m1_0 : Int) (m1_1 : Int) (m1_2 : List Int) (K : KT ρ) : f67i N f67c23 f67p23 (f67s6 num3 den4 out5 s6 t34 t35 m1_0 m1_1 m1_2) (joinK (some f67l4) K) =
  impl_factors.Z23 N num3 den4 out5 s6 t34 t35 m1_0 m1_1 m1_2 (fun num3 den4 out5 t34 t35 m1_0 m1_1 m1_2 => K .nrm (f67s4 num3 den4 out5 t34 t35 m1_0 m1_1 m1_2)) (fun t2 => K .ret (f67s21 t2)) :=
  viaSeq (fun k => impl_factors.Z24 N num3 den4 out5 s6 t34 t35 m1_0 m1_1 m1_2 k) (by kernel_rfl) (by kernel_rfl) (f67t24 N num3 den4 out5 s6 t34 t35 m1_0 m1_1 m1_2 (seqK (fun σ => f67i N f67c25 f67p25 σ (joinK (some f67l4) K)) (joinK (some f67l4) K))) (funext fun num3 => funext fun den4 => funext fun out5 => funext fun piece7 => funext fun t34 => funext fun t35 => funext fun m1_0 => funext fun m1_1 => funext fun m1_2 => f67t25 N num3 den4 out5 piece7 t34 t35 m1_0 m1_1 m1_2 K) (by kernel_rfl) (by kernel_rfl)
noncomputable def f67c21 := codeAt (bodyOf Try.f67) [1,1,1,0,1,0,0,1,1,0,0,1,1]
noncomputable def f67p21 : Plan := .mk (some f67l6) none .n f67p23
theorem f67t21 {ρ : Type} (N : Nat) (num3 : List Int) (den4 : List Int) (out5 : List Int) (s6 : Int) (t34 : Int) (t35 : Int) (m1_0 : Int) (m1_1 : Int) (m1_2 : List Int) (K : KT ρ) : f67i N f67c21 f67p21 (f67s6 num3 den4 out5 s6 t34 t35 m1_0 m1_1 m1_2) (joinK (some f67l4) K) =
  impl_factors.Z21 N num3 den4 out5 s6 t34 t35 m1_0 m1_1 m1_2 (fun num3 den4 out5 t34 t35 m1_0 m1_1 m1_2 => K .nrm (f67s4 num3 den4 out5 t34 t35 m1_0 m1_1 m1_2)) (fun t2 => K .ret (f67s21 t2)) :=
  viaSeq (fun k => impl_factors.Z22 N num3 den4 out5 s6 t34 t35 m1_0 m1_1 m1_2 k) (by kernel_rfl) (by kernel_rfl) (f67t22 N num3 den4 out5 s6 t34 t35 m1_0 m1_1 m1_2 (seqK (fun σ => f67i N f67c23 f67p23 σ (joinK (some f67l4) K)) (joinK (some f67l4) K))) (funext fun num3 => funext fun den4 => funext fun out5 => funext fun s6 => funext fun t34 => funext fun t35 => funext fun m1_0 => funext fun m1_1 => funext fun m1_2 => f67t23 N num3 den4 out5 s6 t34 t35 m1_0 m1_1 m1_2 K) (by kernel_rfl) (by kernel_rfl)
noncomputable def f67c19 := codeAt (bodyOf Try.f67) [1,1,1,0,1,0,0,1,1,0,0,1]
noncomputable def f67p19 : Plan := .mk (some f67l6) none .n f67p21
theorem f67t19 {ρ : Type} (N : Nat) (num3 : List Int) (den4 : List Int) (out5 : List Int) (s6 : Int) (t34 : Int) (t35 : Int) (m1_0 : Int) (m1_1 : Int) (m1_2 : List Int) (K : KT ρ) : f67i N f67c19 f67p19 (f67s6 num3 den4 out5 s6 t34 t35 m1_0 m1_1 m1_2) (joinK (some f67l4) K) =
  impl_factors.Z19 N num3 den4 out5 s6 t34 t35 m1_0 m1_1 m1_2 (fun num3 den4 out5 t34 t35 m1_0 m1_1 m1_2 => K .nrm (f67s4 num3 den4 out5 t34 t35 m1_0 m1_1 m1_2)) (fun num3 den4 out5 t34 t35 m1_0 m1_1 m1_2 => K (.exit 1) (f67s4 num3 den4 out5 t34 t35 m1_0 m1_1 m1_2)) (fun t2 => K .ret (f67s21 t2)) :=
  viaSeq (fun k => impl_factors.Z20 N num3 den4 out5 s6 t34 t35 m1_0 m1_1 m1_2 k (fun num3 den4 out5 t34 t35 m1_0 m1_1 m1_2 => K (.exit 1) (f67s4 num3 den4 out5 t34 t35 m1_0 m1_1 m1_2))) (by kernel_rfl) (by kernel_rfl) (f67t20 N num3 den4 out5 s6 t34 t35 m1_0 m1_1 m1_2 (seqK (fun σ => f67i N f67c21 f67p21 σ (joinK (some f67l4) K)) (joinK (some f67l4) K))) (funext fun num3 => funext fun den4 => funext fun out5 => funext fun s6 => funext fun t34 => funext fun t35 => funext fun m1_0 => funext fun m1_1 => funext fun m1_2 => f67t21 N num3 den4 out5 s6 t34 t35 m1_0 m1_1 m1_2 K) (by kernel_rfl) (by kernel_rfl)
noncomputable def f67c17 := codeAt (bodyOf Try.f67) [1,1,1,0,1,0,0,1,1,0,0]
noncomputable def f67p17 : Plan := .mk (some f67l6) none .n f67p19
theorem f67t17 {ρ : Type} (N : Nat) (num3 : List Int) (den4 : List Int) (out5 : List Int) (t34 : Int) (t35 : Int) (m1_0 : Int) (m1_1 : Int) (m1_2 : List Int) (K : KT ρ) : f67i N f67c17 f67p17 (f67s4 num3 den4 out5 t34 t35 m1_0 m1_1 m1_2) (joinK (some f67l4) K) =
  impl_factors.Z17 N num3 den4 out5 t34 t35 m1_0 m1_1 m1_2 (fun num3 den4 out5 t34 t35 m1_0 m1_1 m1_2 => K .nrm (f67s4 num3 den4 out5 t34 t35 m1_0 m1_1 m1_2)) (fun num3 den4 out5 t34 t35 m1_0 m1_1 m1_2 => K (.exit 1) (f67s4 num3 den4 out5 t34 t35 m1_0 m1_1 m1_2)) (fun t2 => K .ret (f67s21 t2)) :=
  viaSeq (fun k => impl_factors.Z18 N num3 den4 out5 t34 t35 m1_0 m1_1 m1_2 k) (by kernel_rfl) (by kernel_rfl) (f67t18 N num3 den4 out5 t34 t35 m1_0 m1_1 m1_2 (seqK (fun σ => f67i N f67c19 f67p19 σ (joinK (some f67l4) K)) (joinK (some f67l4) K))) (funext fun num3 => funext fun den4 => funext fun out5 => funext fun s6 => funext fun t34 => funext fun t35 => funext fun m1_0 => funext fun m1_1 => funext fun m1_2 => f67t19 N num3 den4 out5 s6 t34 t35 m1_0 m1_1 m1_2 K) (by kernel_rfl) (by kernel_rfl)
noncomputable def f67c16 := codeAt (bodyOf Try.f67) [1,1,1,0,1,0,0,1,1,0]
noncomputable def f67p16 : Plan := .mk (some f67l4) none f67p17 .n
theorem f67t16 {ρ : Type} (N : Nat) (num3 : List Int) (den4 : List Int) (out5 : List Int) (t34 : Int) (t35 : Int) (m1_0 : Int) (m1_1 : Int) (m1_2 : List Int) (K : KT ρ) : f67i N f67c16 f67p16 (f67s4 num3 den4 out5 t34 t35 m1_0 m1_1 m1_2) (joinK (some f67l4) K) =
  impl_factors.Z16 N num3 den4 out5 t34 t35 m1_0 m1_1 m1_2 (fun num3 den4 out5 t34 t35 m1_0 m1_1 m1_2 => K .nrm (f67s4 num3 den4 out5 t34 t35 m1_0 m1_1 m1_2)) (fun t2 => K .ret (f67s21 t2)) :=
  viaBlock (by kernel_rfl) (by kernel_rfl) (f67t17 N num3 den4 out5 t34 t35 m1_0 m1_1 m1_2 (blockK 1 (joinK (some f67l4) K))) (by kernel_rfl)
noncomputable def f67c76 := codeAt (bodyOf Try.f67) [1,1,1,0,1,0,0,1,1,1]
theorem f67t76 {ρ : Type} (N : Nat) (num3 : List Int) (den4 : List Int) (out5 : List Int) (t34 : Int) (t35 : Int) (m1_0 : Int) (m1_1 : Int) (m1_2 : List Int) (K : KT ρ) : f67i N f67c76 .n (f67s4 num3 den4 out5 t34 t35 m1_0 m1_1 m1_2) (joinK (some f67l4) K) =
  impl_factors.Z76 N num3 den4 out5 t34 t35 m1_0 m1_1 m1_2 (fun num3 den4 out5 t34 t35 m1_0 m1_1 m1_2 => K .nrm (f67s4 num3 den4 out5 t34 t35 m1_0 m1_1 m1_2)) := by kernel_rfl
noncomputable def f67c15 := codeAt (bodyOf Try.f67) [1,1,1,0,1,0,0,1,1]
noncomputable def f67p15 : Plan := .mk (some f67l4) none f67p16 .n
theorem f67t15 {ρ : Type} (N : Nat) (num3 : List Int) (den4 : List Int) (out5 : List Int) (t34 : Int) (t35 : Int) (m1_0 : Int) (m1_1 : Int) (m1_2 : List Int) (K : KT ρ) : f67i N f67c15 f67p15 (f67s4 num3 den4 out5 t34 t35 m1_0 m1_1 m1_2) (joinK (some f67l4) K) =
  impl_factors.Z15 N num3 den4 out5 t34 t35 m1_0 m1_1 m1_2 (fun num3 den4 out5 t34 t35 m1_0 m1_1 m1_2 => K .nrm (f67s4 num3 den4 out5 t34 t35 m1_0 m1_1 m1_2)) (fun t2 => K .ret (f67s21 t2)) :=
  viaSeq (fun k => impl_factors.Z16 N num3 den4 out5 t34 t35 m1_0 m1_1 m1_2 k (fun t2 => K .ret (f67s21 t2))) (by kernel_rfl) (by kernel_rfl) (f67t16 N num3 den4 out5 t34 t35 m1_0 m1_1 m1_2 (seqK (fun σ => f67i N f67c76 .n σ (joinK (some f67l4) K)) (joinK (some f67l4) K))) (funext fun num3 => funext fun den4 => funext fun out5 => funext fun t34 => funext fun t35 => funext fun m1_0 => funext fun m1_1 => funext fun m1_2 => f67t76 N num3 den4 out5 t34 t35 m1_0 m1_1 m1_2 K) (by kernel_rfl) (by kernel_rfl)
noncomputable def f67c13 := codeAt (bodyOf Try.f67) [1,1,1,0,1,0,0,1]
noncomputable def f67p13 : Plan := .mk (some f67l4) none .n f67p15
theorem f67t13 {ρ : Type} (N : Nat) (num3 : List Int) (den4 : List Int) (out5 : List Int) (t34 : Int) (t35 : Int) (t36 : Bool) (m1_0 : Int) (m1_1 : Int) (m1_2 : List Int) (K : KT ρ) : f67i N f67c13 f67p13 (f67s5 num3 den4 out5 t34 t35 t36 m1_0 m1_1 m1_2) (joinK (some f67l4) K) =
  impl_factors.Z13 N num3 den4 out5 t34 t35 t36 m1_0 m1_1 m1_2 (fun num3 den4 out5 t34 t35 m1_0 m1_1 m1_2 => K .nrm (f67s4 num3 den4 out5 t34 t35 m1_0 m1_1 m1_2)) (fun out5 => K (.exit 0) (f67s20 out5)) (fun t2 => K .ret (f67s21 t2)) :=
  viaSeq (fun k => impl_factors.Z14 N num3 den4 out5 t34 t35 t36 m1_0 m1_1 m1_2 k (fun out5 => K (.exit 0) (f67s20 out5))) (by kernel_rfl) (by kernel_rfl) (f67t14 N num3 den4 out5 t34 t35 t36 m1_0 m1_1 m1_2 (seqK (fun σ => f67i N f67c15 f67p15 σ (joinK (some f67l4) K)) (joinK (some f67l4) K))) (funext fun num3 => funext fun den4 => funext fun out5 => funext fun t34 => funext fun t35 => funext fun m1_0 => funext fun m1_1 => funext fun m1_2 => f67t15 N num3 den4 out5 t34 t35 m1_0 m1_1 m1_2 K) (by kernel_rfl) (by kernel_rfl)
noncomputable def f67c11 := codeAt (bodyOf Try.f67) [1,1,1,0,1,0,0]
noncomputable def f67p11 : Plan := .mk (some f67l5) none .n f67p13
theorem f67t11 {ρ : Type} (N : Nat) (num3 : List Int) (den4 : List Int) (out5 : List Int) (t34 : Int) (t35 : Int) (m1_0 : Int) (m1_1 : Int) (m1_2 : List Int) (K : KT ρ) : f67i N f67c11 f67p11 (f67s4 num3 den4 out5 t34 t35 m1_0 m1_1 m1_2) (joinK (some f67l4) K) =
  impl_factors.Z11 N num3 den4 out5 t34 t35 m1_0 m1_1 m1_2 (fun num3 den4 out5 t34 t35 m1_0 m1_1 m1_2 => K .nrm (f67s4 num3 den4 out5 t34 t35 m1_0 m1_1 m1_2)) (fun out5 => K (.exit 0) (f67s20 out5)) (fun t2 => K .ret (f67s21 t2)) :=
  viaSeq (fun k => impl_factors.Z12 N num3 den4 out5 t34 t35 m1_0 m1_1 m1_2 k) (by kernel_rfl) (by kernel_rfl) (f67t12 N num3 den4 out5 t34 t35 m1_0 m1_1 m1_2 (seqK (fun σ => f67i N f67c13 f67p13 σ (joinK (some f67l4) K)) (joinK (some f67l4) K))) (funext fun num3 => funext fun den4 => funext fun out5 => funext fun t34 => funext fun t35 => funext fun t36 => funext fun m1_0 => funext fun m1_1 => funext fun m1_2 => f67t13 N num3 den4 out5 t34 t35 t36 m1_0 m1_1 m1_2 K) (by kernel_rfl) (by kernel_rfl)
noncomputable def f67c10 := codeAt (bodyOf Try.f67) [1,1,1,0,1,0]
noncomputable def f67p10 : Plan := .mk none (some f67l4) f67p11 .n
noncomputable abbrev f67w10 {ρ : Type} (N : Nat) (M : Nat) (σ : St) (K : KT ρ) : Option ρ := loopC (fun σ K => f67i N f67c11 f67p11 σ K) f67l4 M σ K
theorem f67t10L {ρ : Type} (N : Nat) (K : KT ρ) : ∀ (M : Nat) (num3 : List Int) (den4 : List Int) (out5 : List Int) (t34 : Int) (t35 : Int) (m1_0 : Int) (m1_1 : Int) (m1_2 : List Int), f67w10 N M (f67s4 num3 den4 out5 t34 t35 m1_0 m1_1 m1_2) K =
  impl_factors.Z10L N (fun out5 => K (.exit 0) (f67s20 out5)) (fun t2 => K .ret (f67s21 t2)) M num3 den4 out5 t34 t35 m1_0 m1_1 m1_2
  | 0, _, _, _, _, _, _, _, _ => rfl
  | M + 1, num3, den4, out5, t34, t35, m1_0, m1_1, m1_2 => viaRound (fun k => impl_factors.Z11 N num3 den4 out5 t34 t35 m1_0 m1_1 m1_2 k (fun out5 => K (.exit 0) (f67s20 out5)) (fun t2 => K .ret (f67s21 t2))) (f67t11 N num3 den4 out5 t34 t35 m1_0 m1_1 m1_2 (seqK (fun σ => f67w10 N M σ K) K)) (funext fun num3 => funext fun den4 => funext fun out5 => funext fun t34 => funext fun t35 => funext fun m1_0 => funext fun m1_1 => funext fun m1_2 => f67t10L N K M num3 den4 out5 t34 t35 m1_0 m1_1 m1_2) (by kernel_rfl) (by kernel_rfl)
theorem f67t10 {ρ : Type} (N : Nat) (num3 : List Int) (den4 : List Int) (out5 : List Int) (t34 : Int) (t35 : Int) (m1_0 : Int) (m1_1 : Int) (m1_2 : List Int) (K : KT ρ) : f67i N f67c10 f67p10 (f67s4 num3 den4 out5 t34 t35 m1_0 m1_1 m1_2) (joinK (some f67l20) K) =
  impl_factors.Z10 N num3 den4 out5 t34 t35 m1_0 m1_1 m1_2 (fun out5 => K (.exit 0) (f67s20 out5)) (fun t2 => K .ret (f67s21 t2)) :=
  viaLoop (by kernel_rfl) (by kernel_rfl) (σ' := f67s4 num3 den4 out5 t34 t35 m1_0 m1_1 m1_2) (by kernel_rfl) (f67t10L N (joinK (some f67l20) K) N num3 den4 out5 t34 t35 m1_0 m1_1 m1_2) (by kernel_rfl)
noncomputable def f67c9 := codeAt (bodyOf Try.f67) [1,1,1,0,1]
noncomputable def f67p9 : Plan := .mk (some f67l20) none f67p10 .n
theorem f67t9 {ρ : Type} (N : Nat) (num3 : List Int) (den4 : List Int) (out5 : List Int) (t34 : Int) (t35 : Int) (m1_0 : Int) (m1_1 : Int) (m1_2 : List Int) (K : KT ρ) : f67i N f67c9 f67p9 (f67s4 num3 den4 out5 t34 t35 m1_0 m1_1 m1_2) (joinK (some f67l20) K) =
  impl_factors.Z9 N num3 den4 out5 t34 t35 m1_0 m1_1 m1_2 (fun out5 => K .nrm (f67s20 out5)) (fun t2 => K .ret (f67s21 t2)) :=
  viaBlock (by kernel_rfl) (by kernel_rfl) (f67t10 N num3 den4 out5 t34 t35 m1_0 m1_1 m1_2 (blockK 0 (joinK (some f67l20) K))) (by kernel_rfl)
noncomputable def f67c7 := codeAt (bodyOf Try.f67) [1,1,1,0]
noncomputable def f67p7 : Plan := .mk (some f67l4) none .n f67p9
theorem f67t7 {ρ : Type} (N : Nat) (num3 : List Int) (den4 : List Int) (out5 : List Int) (m1_0 : Int) (m1_1 : Int) (m1_2 : List Int) (K : KT ρ) : f67i N f67c7 f67p7 (f67s3 num3 den4 out5 m1_0 m1_1 m1_2) (joinK (some f67l20) K) =
  impl_factors.Z7 N num3 den4 out5 m1_0 m1_1 m1_2 (fun out5 => K .nrm (f67s20 out5)) (fun t2 => K .ret (f67s21 t2)) :=
  viaSeq (fun k => impl_factors.Z8 N num3 den4 out5 m1_0 m1_1 m1_2 k) (by kernel_rfl) (by kernel_rfl) (f67t8 N num3 den4 out5 m1_0 m1_1 m1_2 (seqK (fun σ => f67i N f67c9 f67p9 σ (joinK (some f67l20) K)) (joinK (some f67l20) K))) (funext fun num3 => funext fun den4 => funext fun out5 => funext fun t34 => funext fun t35 => funext fun m1_0 => funext fun m1_1 => funext fun m1_2 => f67t9 N num3 den4 out5 t34 t35 m1_0 m1_1 m1_2 K) (by kernel_rfl) (by kernel_rfl)
noncomputable def f67c77 := codeAt (bodyOf Try.f67) [1,1,1,1]
theorem f67t77 {ρ : Type} (N : Nat) (out5 : List Int) (K : KT ρ) : f67i N f67c77 .n (f67s20 out5) (joinK (some f67lE) K) =
  impl_factors.Z77 N out5 (fun t2 => K .ret (f67s21 t2)) := by kernel_rfl
noncomputable def f67c6 := codeAt (bodyOf Try.f67) [1,1,1]
noncomputable def f67p6 : Plan := .mk (some f67l20) none f67p7 .n
theorem f67t6 {ρ : Type} (N : Nat) (num3 : List Int) (den4 : List Int) (out5 : List Int) (m1_0 : Int) (m1_1 : Int) (m1_2 : List Int) (K : KT ρ) : f67i N f67c6 f67p6 (f67s3 num3 den4 out5 m1_0 m1_1 m1_2) (joinK (some f67lE) K) =
  impl_factors.Z6 N num3 den4 out5 m1_0 m1_1 m1_2 (fun t2 => K .ret (f67s21 t2)) :=
  viaSeq (fun k => impl_factors.Z7 N num3 den4 out5 m1_0 m1_1 m1_2 k (fun t2 => K .ret (f67s21 t2))) (by kernel_rfl) (by kernel_rfl) (f67t7 N num3 den4 out5 m1_0 m1_1 m1_2 (seqK (fun σ => f67i N f67c77 .n σ (joinK (some f67lE) K)) (joinK (some f67lE) K))) (funext fun out5 => f67t77 N out5 K) (by kernel_rfl) (by kernel_rfl)
noncomputable def f67c4 := codeAt (bodyOf Try.f67) [1,1]
noncomputable def f67p4 : Plan := .mk (some f67l3) none .n f67p6
theorem f67t4 {ρ : Type} (N : Nat) (num3 : List Int) (den4 : List Int) (m1_0 : Int) (m1_1 : Int) (m1_2 : List Int) (K : KT ρ) : f67i N f67c4 f67p4 (f67s2 num3 den4 m1_0 m1_1 m1_2) (joinK (some f67lE) K) =
  impl_factors.Z4 N num3 den4 m1_0 m1_1 m1_2 (fun t2 => K .ret (f67s21 t2)) :=
  viaSeq (fun k => impl_factors.Z5 N num3 den4 m1_0 m1_1 m1_2 k) (by kernel_rfl) (by kernel_rfl) (f67t5 N num3 den4 m1_0 m1_1 m1_2 (seqK (fun σ => f67i N f67c6 f67p6 σ (joinK (some f67lE) K)) (joinK (some f67lE) K))) (funext fun num3 => funext fun den4 => funext fun out5 => funext fun m1_0 => funext fun m1_1 => funext fun m1_2 => f67t6 N num3 den4 out5 m1_0 m1_1 m1_2 K) (by kernel_rfl) (by kernel_rfl)
noncomputable def f67c2 := codeAt (bodyOf Try.f67) [1]
noncomputable def f67p2 : Plan := .mk (some f67l2) none .n f67p4
theorem f67t2 {ρ : Type} (N : Nat) (m1_0 : Int) (m1_1 : Int) (m1_2 : List Int) (K : KT ρ) : f67i N f67c2 f67p2 (f67s1 m1_0 m1_1 m1_2) (joinK (some f67lE) K) =
  impl_factors.Z2 N m1_0 m1_1 m1_2 (fun t2 => K .ret (f67s21 t2)) :=
  viaSeq (fun k => impl_factors.Z3 N m1_0 m1_1 m1_2 k) (by kernel_rfl) (by kernel_rfl) (f67t3 N m1_0 m1_1 m1_2 (seqK (fun σ => f67i N f67c4 f67p4 σ (joinK (some f67lE) K)) (joinK (some f67lE) K))) (funext fun num3 => funext fun den4 => funext fun m1_0 => funext fun m1_1 => funext fun m1_2 => f67t4 N num3 den4 m1_0 m1_1 m1_2 K) (by kernel_rfl) (by kernel_rfl)
noncomputable def f67c0 := codeAt (bodyOf Try.f67) []
noncomputable def f67p0 : Plan := .mk (some f67l1) none .n f67p2
theorem f67t0 {ρ : Type} (N : Nat) (m0 : Int × Int × List Int) (K : KT ρ) : f67i N f67c0 f67p0 (f67s0 m0) (joinK (some f67lE) K) =
  impl_factors.Z0 N m0 (fun t2 => K .ret (f67s21 t2)) :=
  viaSeq (fun k => impl_factors.Z1 N m0 k) (by kernel_rfl) (by kernel_rfl) (f67t1 N m0 (seqK (fun σ => f67i N f67c2 f67p2 σ (joinK (some f67lE) K)) (joinK (some f67lE) K))) (funext fun m1_0 => funext fun m1_1 => funext fun m1_2 => f67t2 N m1_0 m1_1 m1_2 K) (by kernel_rfl) (by kernel_rfl)
theorem f67m (N : Nat) (m0 : Int × Int × List Int) : f67i N f67c0 f67p0 (f67s0 m0) (joinK (some f67lE) (finK tab f67sig Try.f67.results.toList)) = impl_factors.Z0 N m0 (fun t2 => some ((), (t2, ()))) :=
  (f67t0 N m0 (finK tab f67sig Try.f67.results.toList)).trans (by kernel_rfl)
theorem f67ok (h : impl_factors.Spec) : EntryOk Try.prog 67 e67 :=
  entry_of_code (sig := f67sig) (c := f67c0) (pl := f67p0) (je := (some f67lE)) (B := f67B) Try.func67 (by kernel_rfl) (by kernel_rfl) (by kernel_rfl) tabOk f67GOk (by kernel_rfl) (by kernel_rfl) (by kernel_rfl) (by kernel_rfl) fun X hb hp => by
    obtain ⟨m0, _⟩ := X
    obtain ⟨N, h⟩ := h m0 hb.1 hp
    exact ⟨N, (f67m N m0).trans (h N (Nat.le_refl N))⟩
theorem e67ok : EntryOk Try.prog 67 e67 := f67ok impl_factors.ok
end Go.Fw
set_option linter.unusedVariables false
set_option linter.unusedSimpArgs false
set_option maxRecDepth 100000
namespace Go.Fw
open Go.Proofs
/-! ### loop.example/g03115/impl.SymmetrizerOf -/
noncomputable def f36sig : Sig := ⟨[⟨.pair (.int .i64) (.pair (.int .i64) (.sl 3 (.int .i64))), true, false⟩], [⟨.sl 3 (.int .i64), false, false⟩]⟩
noncomputable def e36 : Entry := ⟨f36sig, none, fun X => ((), ((impl_SymmetrizerOf.g X.1), ()))⟩
noncomputable def f36G : Nat → Option Entry := addG (addG (fun _ => none) 66 e66) 67 e67
theorem f36GOk : GOk Try.prog f36G := ((GOk.nil).add e66ok (by kernel_rfl)).add e67ok (by kernel_rfl)
noncomputable def f36lE : Clean := ⟨[], [], [], [], []⟩
noncomputable def f36s0 (m0 : Int × Int × List Int) : St := initSt f36sig.ps (m0, ())
noncomputable def f36s1 (t2 : List Int) : St := stOf [(2, .c (.own 1000128))] [] [(1000128, (⟨3, .int .i64, t2, true, false⟩ : Row))]
noncomputable def f36l1 : Clean := ⟨[2], [], [⟨⟨false, 2, 0⟩, 30000000, 3, .int .i64, true⟩], [], [(⟨false, 2, 0⟩, 1000128)]⟩
noncomputable def f36B : Nat → Option Clean := lookL [(1000000, f36l1)]
noncomputable abbrev f36i {ρ : Type} (N : Nat) (c : Code) (p : Plan) (σ : St) (K : KT ρ) : Option ρ := iCode f36G tab f36B N c p σ K
noncomputable def f36c0 := codeAt (bodyOf Try.f36) []
theorem f36t0 {ρ : Type} (N : Nat) (m0 : Int × Int × List Int) (K : KT ρ) : f36i N f36c0 .n (f36s0 m0) (joinK (some f36lE) K) =
  impl_SymmetrizerOf.Z0 N m0 (fun t2 => K .ret (f36s1 t2)) := by kernel_rfl
theorem f36m (N : Nat) (m0 : Int × Int × List Int) : f36i N f36c0 .n (f36s0 m0) (joinK (some f36lE) (finK tab f36sig Try.f36.results.toList)) = impl_SymmetrizerOf.Z0 N m0 (fun t2 => some ((), (t2, ()))) :=
  (f36t0 N m0 (finK tab f36sig Try.f36.results.toList)).trans (by kernel_rfl)
theorem f36ok (h : impl_SymmetrizerOf.Spec) : EntryOk Try.prog 36 e36 :=
  entry_of_code (sig := f36sig) (c := f36c0) (pl := .n) (je := (some f36lE)) (B := f36B) Try.func36 (by kernel_rfl) (by kernel_rfl) (by kernel_rfl) tabOk f36GOk (by kernel_rfl) (by kernel_rfl) (by kernel_rfl) (by kernel_rfl) fun X hb hp => by
    obtain ⟨m0, _⟩ := X
    obtain ⟨N, h⟩ := h m0 hb.1
    exact ⟨N, (f36m N m0).trans (h N (Nat.le_refl N))⟩
theorem e36ok : EntryOk Try.prog 36 e36 := f36ok impl_SymmetrizerOf.ok
end Go.Fw
set_option linter.unusedVariables false
set_option linter.unusedSimpArgs false
set_option maxRecDepth 100000
namespace Go.Fw
open Go.Proofs
/-! ### loop.example/g03115/laws.eqIntS -/
noncomputable def f22sig : Sig := ⟨[⟨.sl 3 (.int .i64), false, false⟩, ⟨.sl 3 (.int .i64), false, false⟩], [⟨.bool, false, false⟩]⟩
noncomputable def e22 : Entry := ⟨f22sig, none, fun X => ((), ((laws_eqIntS.g X.1 X.2.1), ()))⟩
noncomputable def f22G : Nat → Option Entry := (fun _ => none)
theorem f22GOk : GOk Try.prog f22G := GOk.nil
noncomputable def f22lE : Clean := ⟨[], [], [], [], []⟩
noncomputable def f22s0 (a0 : List Int) (b1 : List Int) : St := initSt f22sig.ps (a0, (b1, ()))
noncomputable def f22s1 (a0 : List Int) (b1 : List Int) : St := stOf [(0, .c (.sn 3 (.int .i64) a0 none)), (1, .c (.sn 3 (.int .i64) b1 none))] [] []
noncomputable def f22l1 : Clean := ⟨[0, 1], [], [], [], []⟩
noncomputable def f22s2 (a0 : List Int) (b1 : List Int) (i5 : Int) : St := stOf [(0, .c (.sn 3 (.int .i64) a0 none)), (1, .c (.sn 3 (.int .i64) b1 none)), (5, .c (.int .i64 i5))] [] []
noncomputable def f22l2 : Clean := ⟨[0, 1, 5], [], [], [], []⟩
noncomputable def f22s3  : St := stOf [] [] []
noncomputable def f22l3 : Clean := ⟨[], [], [], [], []⟩
noncomputable def f22s4 (t4 : Bool) : St := stOf [(4, .c (.bool t4))] [] []
noncomputable def f22l4 : Clean := ⟨[4], [], [], [], []⟩
noncomputable def f22B : Nat → Option Clean := lookL [(0, f22l3), (1000000, f22l4)]
noncomputable abbrev f22i {ρ : Type} (N : Nat) (c : Code) (p : Plan) (σ : St) (K : KT ρ) : Option ρ := iCode f22G tab f22B N c p σ K
noncomputable def f22c1 := codeAt (bodyOf Try.f22) [0]
theorem f22t1 {ρ : Type} (N : Nat) (a0 : List Int) (b1 : List Int) (K : KT ρ) : f22i N f22c1 .n (f22s0 a0 b1) (joinK (some f22l1) K) =
  laws_eqIntS.Z1 N a0 b1 (fun a0 b1 => K .nrm (f22s1 a0 b1)) := by kernel_rfl
noncomputable def f22c3 := codeAt (bodyOf Try.f22) [1,0]
theorem f22t3 {ρ : Type} (N : Nat) (a0 : List Int) (b1 : List Int) (K : KT ρ) : f22i N f22c3 .n (f22s1 a0 b1) (joinK (some f22l1) K) =
  laws_eqIntS.Z3 N a0 b1 (fun a0 b1 => K .nrm (f22s1 a0 b1)) (fun t4 => K .ret (f22s4 t4)) := by kernel_rfl
noncomputable def f22c6 := codeAt (bodyOf Try.f22) [1,1,0,0]
theorem f22t6 {ρ : Type} (N : Nat) (a0 : List Int) (b1 : List Int) (K : KT ρ) : f22i N f22c6 .n (f22s1 a0 b1) (joinK (some f22l2) K) =
  laws_eqIntS.Z6 N a0 b1 (fun a0 b1 i5 => K .nrm (f22s2 a0 b1 i5)) := by kernel_rfl
noncomputable def f22c9 := codeAt (bodyOf Try.f22) [1,1,0,1,0,0]
theorem f22t9 {ρ : Type} (N : Nat) (a0 : List Int) (b1 : List Int) (i5 : Int) (K : KT ρ) : f22i N f22c9 .n (f22s2 a0 b1 i5) (joinK (some f22l2) K) =
  laws_eqIntS.Z9 N a0 b1 i5 (fun a0 b1 i5 => K .nrm (f22s2 a0 b1 i5)) (K (.exit 0) f22s3) (fun t4 => K .ret (f22s4 t4)) := by kernel_rfl
noncomputable def f22c8 := codeAt (bodyOf Try.f22) [1,1,0,1,0]
noncomputable def f22p8 : Plan := .mk none (some f22l2) .n .n
noncomputable abbrev f22w8 {ρ : Type} (N : Nat) (M : Nat) (σ : St) (K : KT ρ) : Option ρ := loopC (fun σ K => f22i N f22c9 .n σ K) f22l2 M σ K
theorem f22t8L {ρ : Type} (N : Nat) (K : KT ρ) : ∀ (M : Nat) (a0 : List Int) (b1 : List Int) (i5 : Int), f22w8 N M (f22s2 a0 b1 i5) K =
  laws_eqIntS.Z8L N (K (.exit 0) f22s3) (fun t4 => K .ret (f22s4 t4)) M a0 b1 i5
  | 0, _, _, _ => rfl
  | M + 1, a0, b1, i5 => viaRound (fun k => laws_eqIntS.Z9 N a0 b1 i5 k (K (.exit 0) f22s3) (fun t4 => K .ret (f22s4 t4))) (f22t9 N a0 b1 i5 (seqK (fun σ => f22w8 N M σ K) K)) (funext fun a0 => funext fun b1 => funext fun i5 => f22t8L N K M a0 b1 i5) (by kernel_rfl) (by kernel_rfl)
theorem f22t8 {ρ : Type} (N : Nat) (a0 : List Int) (b1 : List Int) (i5 : Int) (K : KT ρ) : f22i N f22c8 f22p8 (f22s2 a0 b1 i5) (joinK (some f22l3) K) =
  laws_eqIntS.Z8 N a0 b1 i5 (K (.exit 0) f22s3) (fun t4 => K .ret (f22s4 t4)) :=
  viaLoop (by kernel_rfl) (by kernel_rfl) (σ' := f22s2 a0 b1 i5) (by kernel_rfl) (f22t8L N (joinK (some f22l3) K) N a0 b1 i5) (by kernel_rfl)
noncomputable def f22c7 := codeAt (bodyOf Try.f22) [1,1,0,1]
noncomputable def f22p7 : Plan := .mk (some f22l3) none f22p8 .n
theorem f22t7 {ρ : Type} (N : Nat) (a0 : List Int) (b1 : List Int) (i5 : Int) (K : KT ρ) : f22i N f22c7 f22p7 (f22s2 a0 b1 i5) (joinK (some f22l3) K) =
  laws_eqIntS.Z7 N a0 b1 i5 (K .nrm f22s3) (fun t4 => K .ret (f22s4 t4)) :=
  viaBlock (by kernel_rfl) (by kernel_rfl) (f22t8 N a0 b1 i5 (blockK 0 (joinK (some f22l3) K))) (by kernel_rfl)
noncomputable def f22c5 := codeAt (bodyOf Try.f22) [1,1,0]
noncomputable def f22p5 : Plan := .mk (some f22l2) none .n f22p7
theorem f22t5 {ρ : Type} (N : Nat) (a0 : List Int) (b1 : List Int) (K : KT ρ) : f22i N f22c5 f22p5 (f22s1 a0 b1) (joinK (some f22l3) K) =
  laws_eqIntS.Z5 N a0 b1 (K .nrm f22s3) (fun t4 => K .ret (f22s4 t4)) :=
  viaSeq (fun k => laws_eqIntS.Z6 N a0 b1 k) (by kernel_rfl) (by kernel_rfl) (f22t6 N a0 b1 (seqK (fun σ => f22i N f22c7 f22p7 σ (joinK (some f22l3) K)) (joinK (some f22l3) K))) (funext fun a0 => funext fun b1 => funext fun i5 => f22t7 N a0 b1 i5 K) (by kernel_rfl) (by kernel_rfl)
noncomputable def f22c10 := codeAt (bodyOf Try.f22) [1,1,1]
theorem f22t10 {ρ : Type} (N : Nat)  (K : KT ρ) : f22i N f22c10 .n f22s3 (joinK (some f22lE) K) =
  laws_eqIntS.Z10 N (fun t4 => K .ret (f22s4 t4)) := by kernel_rfl
noncomputable def f22c4 := codeAt (bodyOf Try.f22) [1,1]
noncomputable def f22p4 : Plan := .mk (some f22l3) none f22p5 .n
theorem f22t4 {ρ : Type} (N : Nat) (a0 : List Int) (b1 : List Int) (K : KT ρ) : f22i N f22c4 f22p4 (f22s1 a0 b1) (joinK (some f22lE) K) =
  laws_eqIntS.Z4 N a0 b1 (fun t4 => K .ret (f22s4 t4)) :=
  viaSeq (fun k => laws_eqIntS.Z5 N a0 b1 k (fun t4 => K .ret (f22s4 t4))) (by kernel_rfl) (by kernel_rfl) (f22t5 N a0 b1 (seqK (fun σ => f22i N f22c10 .n σ (joinK (some f22lE) K)) (joinK (some f22lE) K))) (f22t10 N K) (by kernel_rfl) (by kernel_rfl)
noncomputable def f22c2 := codeAt (bodyOf Try.f22) [1]
noncomputable def f22p2 : Plan := .mk (some f22l1) none .n f22p4
theorem f22t2 {ρ : Type} (N : Nat) (a0 : List Int) (b1 : List Int) (K : KT ρ) : f22i N f22c2 f22p2 (f22s1 a0 b1) (joinK (some f22lE) K) =
  laws_eqIntS.Z2 N a0 b1 (fun t4 => K .ret (f22s4 t4)) :=
  viaSeq (fun k => laws_eqIntS.Z3 N a0 b1 k (fun t4 => K .ret (f22s4 t4))) (by kernel_rfl) (by kernel_rfl) (f22t3 N a0 b1 (seqK (fun σ => f22i N f22c4 f22p4 σ (joinK (some f22lE) K)) (joinK (some f22lE) K))) (funext fun a0 => funext fun b1 => f22t4 N a0 b1 K) (by kernel_rfl) (by kernel_rfl)
noncomputable def f22c0 := codeAt (bodyOf Try.f22) []
noncomputable def f22p0 : Plan := .mk (some f22l1) none .n f22p2
theorem f22t0 {ρ : Type} (N : Nat) (a0 : List Int) (b1 : List Int) (K : KT ρ) : f22i N f22c0 f22p0 (f22s0 a0 b1) (joinK (some f22lE) K) =
  laws_eqIntS.Z0 N a0 b1 (fun t4 => K .ret (f22s4 t4)) :=
  viaSeq (fun k => laws_eqIntS.Z1 N a0 b1 k) (by kernel_rfl) (by kernel_rfl) (f22t1 N a0 b1 (seqK (fun σ => f22i N f22c2 f22p2 σ (joinK (some f22lE) K)) (joinK (some f22lE) K))) (funext fun a0 => funext fun b1 => f22t2 N a0 b1 K) (by kernel_rfl) (by kernel_rfl)
theorem f22m (N : Nat) (a0 : List Int) (b1 : List Int) : f22i N f22c0 f22p0 (f22s0 a0 b1) (joinK (some f22lE) (finK tab f22sig Try.f22.results.toList)) = laws_eqIntS.Z0 N a0 b1 (fun t4 => some ((), (t4, ()))) :=
  (f22t0 N a0 b1 (finK tab f22sig Try.f22.results.toList)).trans (by kernel_rfl)
theorem f22ok (h : laws_eqIntS.Spec) : EntryOk Try.prog 22 e22 :=
  entry_of_code (sig := f22sig) (c := f22c0) (pl := f22p0) (je := (some f22lE)) (B := f22B) Try.func22 (by kernel_rfl) (by kernel_rfl) (by kernel_rfl) tabOk f22GOk (by kernel_rfl) (by kernel_rfl) (by kernel_rfl) (by kernel_rfl) fun X hb hp => by
    obtain ⟨a0, b1, _⟩ := X
    obtain ⟨N, h⟩ := h a0 b1 hb.1 hb.2.1
    exact ⟨N, (f22m N a0 b1).trans (h N (Nat.le_refl N))⟩
theorem e22ok : EntryOk Try.prog 22 e22 := f22ok laws_eqIntS.ok
end Go.Fw
set_option linter.unusedVariables false
set_option linter.unusedSimpArgs false
set_option maxRecDepth 100000
namespace Go.Fw
open Go.Proofs
/-! ### loop.example/g03115/laws.eqMatrix -/
noncomputable def f34sig : Sig := ⟨[⟨.pair (.int .i64) (.pair (.int .i64) (.sl 3 (.int .i64))), true, false⟩, ⟨.pair (.int .i64) (.pair (.int .i64) (.sl 3 (.int .i64))), true, false⟩], [⟨.bool, false, false⟩]⟩
noncomputable def e34 : Entry := ⟨f34sig, none, fun X => ((), ((laws_eqMatrix.g X.1 X.2.1), ()))⟩
noncomputable def f34G : Nat → Option Entry := addG (fun _ => none) 22 e22
theorem f34GOk : GOk Try.prog f34G := (GOk.nil).add e22ok (by kernel_rfl)
noncomputable def f34lE : Clean := ⟨[], [], [], [], []⟩
noncomputable def f34s0 (a0 : Int × Int × List Int) (b1 : Int × Int × List Int) : St := initSt f34sig.ps (a0, (b1, ()))
noncomputable def f34s1 (t4 : Bool) : St := stOf [(4, .c (.bool t4))] [] []
noncomputable def f34l1 : Clean := ⟨[4], [], [], [], []⟩
noncomputable def f34B : Nat → Option Clean := lookL [(1000000, f34l1)]
noncomputable abbrev f34i {ρ : Type} (N : Nat) (c : Code) (p : Plan) (σ : St) (K : KT ρ) : Option ρ := iCode f34G tab f34B N c p σ K
noncomputable def f34c0 := codeAt (bodyOf Try.f34) []
theorem f34t0 {ρ : Type} (N : Nat) (a0 : Int × Int × List Int) (b1 : Int × Int × List Int) (K : KT ρ) : f34i N f34c0 .n (f34s0 a0 b1) (joinK (some f34lE) K) =
  laws_eqMatrix.Z0 N a0 b1 (fun t4 => K .ret (f34s1 t4)) := by kernel_rfl
theorem f34m (N : Nat) (a0 : Int × Int × List Int) (b1 : Int × Int × List Int) : f34i N f34c0 .n (f34s0 a0 b1) (joinK (some f34lE) (finK tab f34sig Try.f34.results.toList)) = laws_eqMatrix.Z0 N a0 b1 (fun t4 => some ((), (t4, ()))) :=
  (f34t0 N a0 b1 (finK tab f34sig Try.f34.results.toList)).trans (by kernel_rfl)
theorem f34ok (h : laws_eqMatrix.Spec) : EntryOk Try.prog 34 e34 :=
  entry_of_code (sig := f34sig) (c := f34c0) (pl := .n) (je := (some f34lE)) (B := f34B) Try.func34 (by kernel_rfl) (by kernel_rfl) (by kernel_rfl) tabOk f34GOk (by kernel_rfl) (by kernel_rfl) (by kernel_rfl) (by kernel_rfl) fun X hb hp => by
    obtain ⟨a0, b1, _⟩ := X
    obtain ⟨N, h⟩ := h a0 b1 hb.1 hb.2.1
    exact ⟨N, (f34m N a0 b1).trans (h N (Nat.le_refl N))⟩
theorem e34ok : EntryOk Try.prog 34 e34 := f34ok laws_eqMatrix.ok
end Go.Fw
set_option linter.unusedVariables false
set_option linter.unusedSimpArgs false
set_option maxRecDepth 100000
namespace Go.Fw
open Go.Proofs
/-! ### loop.example/g03115/laws.markIntS -/
noncomputable def f23sig : Sig := ⟨[⟨.sl 3 (.int .i64), false, true⟩, ⟨.int .i64, false, false⟩], [⟨.int .i64, false, false⟩]⟩
noncomputable def e23 : Entry := ⟨f23sig, none, fun X => ((laws_markIntS.g X.1 X.2.1).1, ((laws_markIntS.g X.1 X.2.1).2, ()))⟩
noncomputable def f23G : Nat → Option Entry := (fun _ => none)
theorem f23GOk : GOk Try.prog f23G := GOk.nil
noncomputable def f23lE : Clean := ⟨[], [], [], [], []⟩
noncomputable def f23s0 (a0 : List Int) (k1 : Int) : St := initSt f23sig.ps (a0, (k1, ()))
noncomputable def f23s1 (a0 : List Int) (k1 : Int) : St := stOf [(0, .c (.own 1000000)), (1, .c (.int .i64 k1)), (100000, .c (.own 1000000))] [] [(1000000, (⟨3, .int .i64, a0, true, false⟩ : Row))]
noncomputable def f23l1 : Clean := ⟨[0, 1, 100000], [], [], [], [(⟨false, 0, 0⟩, 1000000)]⟩
noncomputable def f23s2 (a0 : List Int) (k1 : Int) (i5 : Int) : St := stOf [(0, .c (.own 1000000)), (1, .c (.int .i64 k1)), (5, .c (.int .i64 i5)), (100000, .c (.own 1000000))] [] [(1000000, (⟨3, .int .i64, a0, true, false⟩ : Row))]
noncomputable def f23l2 : Clean := ⟨[0, 1, 5, 100000], [], [], [], [(⟨false, 0, 0⟩, 1000000)]⟩
noncomputable def f23s3 (io100000 : List Int) (k1 : Int) : St := stOf [(1, .c (.int .i64 k1)), (100000, .c (.own 7400000))] [] [(7400000, (⟨3, .int .i64, io100000, true, false⟩ : Row))]
noncomputable def f23l3 : Clean := ⟨[1, 100000], [], [], [], [(⟨false, 100000, 0⟩, 7400000)]⟩
noncomputable def f23s4 (io100000 : List Int) (t4 : Int) : St := stOf [(4, .c (.int .i64 t4)), (100000, .c (.own 7400000))] [] [(7400000, (⟨3, .int .i64, io100000, true, false⟩ : Row))]
noncomputable def f23l4 : Clean := ⟨[4, 100000], [], [], [], [(⟨false, 100000, 0⟩, 7400000)]⟩
noncomputable def f23B : Nat → Option Clean := lookL [(0, f23l3), (1000000, f23l4)]
noncomputable abbrev f23i {ρ : Type} (N : Nat) (c : Code) (p : Plan) (σ : St) (K : KT ρ) : Option ρ := iCode f23G tab f23B N c p σ K
noncomputable def f23c1 := codeAt (bodyOf Try.f23) [0]
theorem f23t1 {ρ : Type} (N : Nat) (a0 : List Int) (k1 : Int) (K : KT ρ) : f23i N f23c1 .n (f23s0 a0 k1) (joinK (some f23l1) K) =
  laws_markIntS.Z1 N a0 k1 (fun a0 k1 => K .nrm (f23s1 a0 k1)) := by kernel_rfl
noncomputable def f23c4 := codeAt (bodyOf Try.f23) [1,0,0]
theorem f23t4 {ρ : Type} (N : Nat) (a0 : List Int) (k1 : Int) (K : KT ρ) : f23i N f23c4 .n (f23s1 a0 k1) (joinK (some f23l2) K) =
  laws_markIntS.Z4 N a0 k1 (fun a0 k1 i5 => K .nrm (f23s2 a0 k1 i5)) := by kernel_rfl
noncomputable def f23c7 := codeAt (bodyOf Try.f23) [1,0,1,0,0]
theorem f23t7 {ρ : Type} (N : Nat) (a0 : List Int) (k1 : Int) (i5 : Int) (K : KT ρ) : f23i N f23c7 .n (f23s2 a0 k1 i5) (joinK (some f23l2) K) =
  laws_markIntS.Z7 N a0 k1 i5 (fun a0 k1 i5 => K .nrm (f23s2 a0 k1 i5)) (fun io100000 k1 => K (.exit 0) (f23s3 io100000 k1)) := by kernel_rfl
noncomputable def f23c6 := codeAt (bodyOf Try.f23) [1,0,1,0]
noncomputable def f23p6 : Plan := .mk none (some f23l2) .n .n
noncomputable abbrev f23w6 {ρ : Type} (N : Nat) (M : Nat) (σ : St) (K : KT ρ) : Option ρ := loopC (fun σ K => f23i N f23c7 .n σ K) f23l2 M σ K
theorem f23t6L {ρ : Type} (N : Nat) (K : KT ρ) : ∀ (M : Nat) (a0 : List Int) (k1 : Int) (i5 : Int), f23w6 N M (f23s2 a0 k1 i5) K =
  laws_markIntS.Z6L N (fun io100000 k1 => K (.exit 0) (f23s3 io100000 k1)) M a0 k1 i5
  | 0, _, _, _ => rfl
  | M + 1, a0, k1, i5 => viaRound (fun k => laws_markIntS.Z7 N a0 k1 i5 k (fun io100000 k1 => K (.exit 0) (f23s3 io100000 k1))) (f23t7 N a0 k1 i5 (seqK (fun σ => f23w6 N M σ K) K)) (funext fun a0 => funext fun k1 => funext fun i5 => f23t6L N K M a0 k1 i5) (by kernel_rfl) (by kernel_rfl)
theorem f23t6 {ρ : Type} (N : Nat) (a0 : List Int) (k1 : Int) (i5 : Int) (K : KT ρ) : f23i N f23c6 f23p6 (f23s2 a0 k1 i5) (joinK (some f23l3) K) =
  laws_markIntS.Z6 N a0 k1 i5 (fun io100000 k1 => K (.exit 0) (f23s3 io100000 k1)) :=
  viaLoop (by kernel_rfl) (by kernel_rfl) (σ' := f23s2 a0 k1 i5) (by kernel_rfl) (f23t6L N (joinK (some f23l3) K) N a0 k1 i5) (by kernel_rfl)
noncomputable def f23c5 := codeAt (bodyOf Try.f23) [1,0,1]
noncomputable def f23p5 : Plan := .mk (some f23l3) none f23p6 .n
theorem f23t5 {ρ : Type} (N : Nat) (a0 : List Int) (k1 : Int) (i5 : Int) (K : KT ρ) : f23i N f23c5 f23p5 (f23s2 a0 k1 i5) (joinK (some f23l3) K) =
  laws_markIntS.Z5 N a0 k1 i5 (fun io100000 k1 => K .nrm (f23s3 io100000 k1)) :=
  viaBlock (by kernel_rfl) (by kernel_rfl) (f23t6 N a0 k1 i5 (blockK 0 (joinK (some f23l3) K))) (by kernel_rfl)
noncomputable def f23c3 := codeAt (bodyOf Try.f23) [1,0]
noncomputable def f23p3 : Plan := .mk (some f23l2) none .n f23p5
theorem f23t3 {ρ : Type} (N : Nat) (a0 : List Int) (k1 : Int) (K : KT ρ) : f23i N f23c3 f23p3 (f23s1 a0 k1) (joinK (some f23l3) K) =
  laws_markIntS.Z3 N a0 k1 (fun io100000 k1 => K .nrm (f23s3 io100000 k1)) :=
  viaSeq (fun k => laws_markIntS.Z4 N a0 k1 k) (by kernel_rfl) (by kernel_rfl) (f23t4 N a0 k1 (seqK (fun σ => f23i N f23c5 f23p5 σ (joinK (some f23l3) K)) (joinK (some f23l3) K))) (funext fun a0 => funext fun k1 => funext fun i5 => f23t5 N a0 k1 i5 K) (by kernel_rfl) (by kernel_rfl)
noncomputable def f23c8 := codeAt (bodyOf Try.f23) [1,1]
theorem f23t8 {ρ : Type} (N : Nat) (io100000 : List Int) (k1 : Int) (K : KT ρ) : f23i N f23c8 .n (f23s3 io100000 k1) (joinK (some f23lE) K) =
  laws_markIntS.Z8 N io100000 k1 (fun io100000 t4 => K .ret (f23s4 io100000 t4)) := by kernel_rfl
noncomputable def f23c2 := codeAt (bodyOf Try.f23) [1]
noncomputable def f23p2 : Plan := .mk (some f23l3) none f23p3 .n
theorem f23t2 {ρ : Type} (N : Nat) (a0 : List Int) (k1 : Int) (K : KT ρ) : f23i N f23c2 f23p2 (f23s1 a0 k1) (joinK (some f23lE) K) =
  laws_markIntS.Z2 N a0 k1 (fun io100000 t4 => K .ret (f23s4 io100000 t4)) :=
  viaSeq (fun k => laws_markIntS.Z3 N a0 k1 k) (by kernel_rfl) (by kernel_rfl) (f23t3 N a0 k1 (seqK (fun σ => f23i N f23c8 .n σ (joinK (some f23lE) K)) (joinK (some f23lE) K))) (funext fun io100000 => funext fun k1 => f23t8 N io100000 k1 K) (by kernel_rfl) (by kernel_rfl)
noncomputable def f23c0 := codeAt (bodyOf Try.f23) []
noncomputable def f23p0 : Plan := .mk (some f23l1) none .n f23p2
theorem f23t0 {ρ : Type} (N : Nat) (a0 : List Int) (k1 : Int) (K : KT ρ) : f23i N f23c0 f23p0 (f23s0 a0 k1) (joinK (some f23lE) K) =
  laws_markIntS.Z0 N a0 k1 (fun io100000 t4 => K .ret (f23s4 io100000 t4)) :=
  viaSeq (fun k => laws_markIntS.Z1 N a0 k1 k) (by kernel_rfl) (by kernel_rfl) (f23t1 N a0 k1 (seqK (fun σ => f23i N f23c2 f23p2 σ (joinK (some f23lE) K)) (joinK (some f23lE) K))) (funext fun a0 => funext fun k1 => f23t2 N a0 k1 K) (by kernel_rfl) (by kernel_rfl)
theorem f23m (N : Nat) (a0 : List Int) (k1 : Int) : f23i N f23c0 f23p0 (f23s0 a0 k1) (joinK (some f23lE) (finK tab f23sig Try.f23.results.toList)) = laws_markIntS.Z0 N a0 k1 (fun io100000 t4 => some (io100000, (t4, ()))) :=
  (f23t0 N a0 k1 (finK tab f23sig Try.f23.results.toList)).trans (by kernel_rfl)
theorem f23ok (h : laws_markIntS.Spec) : EntryOk Try.prog 23 e23 :=
  entry_of_code (sig := f23sig) (c := f23c0) (pl := f23p0) (je := (some f23lE)) (B := f23B) Try.func23 (by kernel_rfl) (by kernel_rfl) (by kernel_rfl) tabOk f23GOk (by kernel_rfl) (by kernel_rfl) (by kernel_rfl) (by kernel_rfl) fun X hb hp => by
    obtain ⟨a0, k1, _⟩ := X
    obtain ⟨N, h⟩ := h a0 k1 hb.1
    exact ⟨N, (f23m N a0 k1).trans (h N (Nat.le_refl N))⟩
theorem e23ok : EntryOk Try.prog 23 e23 := f23ok laws_markIntS.ok
end Go.Fw
set_option linter.unusedVariables false
set_option linter.unusedSimpArgs false
set_option maxRecDepth 100000
namespace Go.Fw
open Go.Proofs
/-! ### loop.example/g03115/laws.markMatrix -/
noncomputable def f37sig : Sig := ⟨[⟨.pair (.int .i64) (.pair (.int .i64) (.sl 3 (.int .i64))), true, true⟩, ⟨.int .i64, false, false⟩], [⟨.int .i64, false, false⟩]⟩
noncomputable def e37 : Entry := ⟨f37sig, none, fun X => ((laws_markMatrix.g X.1 X.2.1).1, ((laws_markMatrix.g X.1 X.2.1).2, ()))⟩
noncomputable def f37G : Nat → Option Entry := addG (fun _ => none) 23 e23
theorem f37GOk : GOk Try.prog f37G := (GOk.nil).add e23ok (by kernel_rfl)
noncomputable def f37lE : Clean := ⟨[], [], [], [], []⟩
noncomputable def f37s0 (a0 : Int × Int × List Int) (k1 : Int) : St := initSt f37sig.ps (a0, (k1, ()))
noncomputable def f37s1 (io100000_2 : List Int) (t4 : Int) (io100000_0 : Int) (io100000_1 : Int) : St := stOf [(4, .c (.int .i64 t4)), (100000, .agg [.int .i64 io100000_0, .int .i64 io100000_1, .own 7400002])] [] [(7400002, (⟨3, .int .i64, io100000_2, true, false⟩ : Row))]
noncomputable def f37l1 : Clean := ⟨[4, 100000], [], [], [], [(⟨false, 100000, 2⟩, 7400002)]⟩
noncomputable def f37B : Nat → Option Clean := lookL [(1000000, f37l1)]
noncomputable abbrev f37i {ρ : Type} (N : Nat) (c : Code) (p : Plan) (σ : St) (K : KT ρ) : Option ρ := iCode f37G tab f37B N c p σ K
noncomputable def f37c0 := codeAt (bodyOf Try.f37) []
theorem f37t0 {ρ : Type} (N : Nat) (a0 : Int × Int × List Int) (k1 : Int) (K : KT ρ) : f37i N f37c0 .n (f37s0 a0 k1) (joinK (some f37lE) K) =
  laws_markMatrix.Z0 N a0 k1 (fun io100000_2 t4 io100000_0 io100000_1 => K .ret (f37s1 io100000_2 t4 io100000_0 io100000_1)) := by kernel_rfl
theorem f37m (N : Nat) (a0 : Int × Int × List Int) (k1 : Int) : f37i N f37c0 .n (f37s0 a0 k1) (joinK (some f37lE) (finK tab f37sig Try.f37.results.toList)) = laws_markMatrix.Z0 N a0 k1 (fun io100000_2 t4 io100000_0 io100000_1 => some ((io100000_0, (io100000_1, io100000_2)), (t4, ()))) :=
  (f37t0 N a0 k1 (finK tab f37sig Try.f37.results.toList)).trans (by kernel_rfl)
theorem f37ok (h : laws_markMatrix.Spec) : EntryOk Try.prog 37 e37 :=
  entry_of_code (sig := f37sig) (c := f37c0) (pl := .n) (je := (some f37lE)) (B := f37B) Try.func37 (by kernel_rfl) (by kernel_rfl) (by kernel_rfl) tabOk f37GOk (by kernel_rfl) (by kernel_rfl) (by kernel_rfl) (by kernel_rfl) fun X hb hp => by
    obtain ⟨a0, k1, _⟩ := X
    obtain ⟨N, h⟩ := h a0 k1 hb.1
    exact ⟨N, (f37m N a0 k1).trans (h N (Nat.le_refl N))⟩
theorem e37ok : EntryOk Try.prog 37 e37 := f37ok laws_markMatrix.ok
end Go.Fw
