/- The ties: the program's text comes to the plain functions. Nothing is assumed. -/
import Derived.Test.YtojjkghallginaaFwb
import Derived.Test.YtojjkghallginaaProg
import Derived.Test.YtojjkghallginaaPuFnExactDenominatorOfa
set_option linter.unusedVariables false
set_option linter.unusedSimpArgs false
set_option maxRecDepth 100000
namespace Go.Fw
open Go.Proofs
def tab : Tab := lookTab [
  (2, ⟨false, .int .i64, [.int .i64 0], [], none, 8⟩),
  (3, ⟨false, .int .i64, [.int .i64 0], [], none, 8⟩),
  (4, ⟨false, .bool, [.bool false], [], none, 1⟩),
  (5, ⟨false, .int .u8, [.int .u8 0], [], none, 1⟩),
  (6, ⟨false, .int .u8, [.int .u8 0], [], none, 1⟩),
  (7, ⟨true, .pair (.int .i64) (.pair (.int .i64) (.pair (.bool) (.int .u8))), [.int .i64 0, .int .i64 0, .bool false, .int .u8 0], [(0, 1, false), (1, 1, false), (2, 1, false), (3, 1, false)], none, 24⟩),
  (8, ⟨true, .pair (.int .i64) (.pair (.int .i64) (.pair (.bool) (.int .u8))), [.int .i64 0, .int .i64 0, .bool false, .int .u8 0], [(0, 1, false), (1, 1, false), (2, 1, false), (3, 1, false)], none, 24⟩),
  (9, ⟨false, .str, [.str ByteArray.empty], [], none, 16⟩),
  (10, ⟨false, .str, [.str ByteArray.empty], [], none, 16⟩),
  (11, ⟨false, .str, [.str ByteArray.empty], [], none, 16⟩),
  (12, ⟨false, .int .u64, [.int .u64 0], [], none, 8⟩),
  (13, ⟨true, .pair (.str) (.int .u64), [.str ByteArray.empty, .int .u64 0], [(0, 1, false), (1, 1, false)], none, 24⟩),
  (14, ⟨true, .pair (.str) (.int .u64), [.str ByteArray.empty, .int .u64 0], [(0, 1, false), (1, 1, false)], none, 24⟩),
  (21, ⟨false, .int .i32, [.int .i32 0], [], none, 4⟩),
  (23, ⟨false, .sl 59 (.pair (.sl 3 (.int .i64)) (.int .i64)), [.nil], [], some 59, 24⟩),
  (24, ⟨true, .pair (.int .i64) (.sl 59 (.pair (.sl 3 (.int .i64)) (.int .i64))), [.int .i64 0, .nil], [(0, 1, false), (1, 1, false)], none, 32⟩),
  (25, ⟨true, .pair (.int .i64) (.sl 59 (.pair (.sl 3 (.int .i64)) (.int .i64))), [.int .i64 0, .nil], [(0, 1, false), (1, 1, false)], none, 32⟩),
  (30, ⟨false, .sl 3 (.int .i64), [.nil], [], some 3, 24⟩),
  (36, ⟨false, .sl 79 (.pair (.sl 3 (.int .i64)) (.int .i64)), [.nil], [], some 79, 24⟩),
  (37, ⟨true, .pair (.int .i64) (.sl 79 (.pair (.sl 3 (.int .i64)) (.int .i64))), [.int .i64 0, .nil], [(0, 1, false), (1, 1, false)], none, 32⟩),
  (38, ⟨true, .pair (.int .i64) (.sl 79 (.pair (.sl 3 (.int .i64)) (.int .i64))), [.int .i64 0, .nil], [(0, 1, false), (1, 1, false)], none, 32⟩),
  (43, ⟨true, .pair (.int .i64) (.pair (.int .i64) (.sl 3 (.int .i64))), [.int .i64 0, .int .i64 0, .nil], [(0, 1, false), (1, 1, false), (2, 1, false)], none, 40⟩),
  (44, ⟨true, .pair (.int .i64) (.pair (.int .i64) (.sl 3 (.int .i64))), [.int .i64 0, .int .i64 0, .nil], [(0, 1, false), (1, 1, false), (2, 1, false)], none, 40⟩),
  (47, ⟨true, .pair (.int .i64) (.pair (.int .i64) (.sl 3 (.int .i64))), [.int .i64 0, .int .i64 0, .nil], [(0, 1, false), (1, 1, false), (2, 1, false)], none, 40⟩),
  (58, ⟨true, .pair (.sl 3 (.int .i64)) (.int .i64), [.nil, .int .i64 0], [(0, 1, false), (1, 1, false)], none, 32⟩),
  (59, ⟨true, .pair (.sl 3 (.int .i64)) (.int .i64), [.nil, .int .i64 0], [(0, 1, false), (1, 1, false)], none, 32⟩),
  (71, ⟨false, .sl 4 (.bool), [.nil], [], some 4, 24⟩),
  (79, ⟨true, .pair (.sl 3 (.int .i64)) (.int .i64), [.nil, .int .i64 0], [(0, 1, false), (1, 1, false)], none, 32⟩),
  (92, ⟨false, .int .u32, [.int .u32 0], [], none, 4⟩),
  (93, ⟨false, .int .u8, [.int .u8 0], [], none, 1⟩),
  (94, ⟨false, .int .u8, [.int .u8 0], [], none, 1⟩),
  (97, ⟨false, .int .i32, [.int .i32 0], [], none, 4⟩),
  (98, ⟨false, .int .i32, [.int .i32 0], [], none, 4⟩)]
theorem tabOk : TOk Try.prog tab := TOk.of (by kernel_rfl)
end Go.Fw
set_option linter.unusedVariables false
set_option linter.unusedSimpArgs false
set_option maxRecDepth 100000
namespace Go.Fw
open Go.Proofs
/-! ### loop.example/g03115/laws.szIntS -/
noncomputable def f63sig : Sig := ⟨[⟨.sl 3 (.int .i64), false, false⟩, ⟨.int .i64, false, false⟩], [⟨.int .i64, false, false⟩]⟩
noncomputable def e63 : Entry := ⟨f63sig, none, fun X => ((), ((laws_szIntS.g X.1 X.2.1), ()))⟩
noncomputable def f63G : Nat → Option Entry := (fun _ => none)
theorem f63GOk : GOk Try.prog f63G := GOk.nil
noncomputable def f63lE : Clean := ⟨[], [], [], [], []⟩
noncomputable def f63s0 (a0 : List Int) (left1 : Int) : St := initSt f63sig.ps (a0, (left1, ()))
noncomputable def f63s1 (t4 : Int) : St := stOf [(4, .c (.int .i64 t4))] [] []
noncomputable def f63l1 : Clean := ⟨[4], [], [], [], []⟩
noncomputable def f63B : Nat → Option Clean := lookL [(1000000, f63l1)]
noncomputable abbrev f63i {ρ : Type} (N : Nat) (c : Code) (p : Plan) (σ : St) (K : KT ρ) : Option ρ := iCode f63G tab f63B N c p σ K
noncomputable def f63c0 := codeAt (bodyOf Try.f63) []
theorem f63t0 {ρ : Type} (N : Nat) (a0 : List Int) (left1 : Int) (K : KT ρ) : f63i N f63c0 .n (f63s0 a0 left1) (joinK (some f63lE) K) =
  laws_szIntS.Z0 N a0 left1 (fun t4 => K .ret (f63s1 t4)) := by kernel_rfl
theorem f63m (N : Nat) (a0 : List Int) (left1 : Int) : f63i N f63c0 .n (f63s0 a0 left1) (joinK (some f63lE) (finK tab f63sig Try.f63.results.toList)) = laws_szIntS.Z0 N a0 left1 (fun t4 => some ((), (t4, ()))) :=
  (f63t0 N a0 left1 (finK tab f63sig Try.f63.results.toList)).trans (by kernel_rfl)
theorem f63ok (h : laws_szIntS.Spec) : EntryOk Try.prog 63 e63 :=
  entry_of_code (sig := f63sig) (c := f63c0) (pl := .n) (je := (some f63lE)) (B := f63B) Try.func63 (by kernel_rfl) (by kernel_rfl) (by kernel_rfl) tabOk f63GOk (by kernel_rfl) (by kernel_rfl) (by kernel_rfl) (by kernel_rfl) fun X hb hp => by
    obtain ⟨a0, left1, _⟩ := X
    obtain ⟨N, h⟩ := h a0 left1 hb.1
    exact ⟨N, (f63m N a0 left1).trans (h N (Nat.le_refl N))⟩
theorem e63ok : EntryOk Try.prog 63 e63 := f63ok laws_szIntS.ok
end Go.Fw
set_option linter.unusedVariables false
set_option linter.unusedSimpArgs false
set_option maxRecDepth 100000
namespace Go.Fw
open Go.Proofs
/-! ### loop.example/g03115/laws.szTerm -/
noncomputable def f81sig : Sig := ⟨[⟨.pair (.sl 3 (.int .i64)) (.int .i64), true, false⟩, ⟨.int .i64, false, false⟩], [⟨.int .i64, false, false⟩]⟩
noncomputable def e81 : Entry := ⟨f81sig, none, fun X => ((), ((laws_szTerm.g X.1 X.2.1), ()))⟩
noncomputable def f81G : Nat → Option Entry := addG (fun _ => none) 63 e63
theorem f81GOk : GOk Try.prog f81G := (GOk.nil).add e63ok (by kernel_rfl)
noncomputable def f81lE : Clean := ⟨[], [], [], [], []⟩
noncomputable def f81s0 (a0 : List Int × Int) (left1 : Int) : St := initSt f81sig.ps (a0, (left1, ()))
noncomputable def f81s1 (t4 : Int) : St := stOf [(4, .c (.int .i64 t4))] [] []
noncomputable def f81l1 : Clean := ⟨[4], [], [], [], []⟩
noncomputable def f81B : Nat → Option Clean := lookL [(1000000, f81l1)]
noncomputable abbrev f81i {ρ : Type} (N : Nat) (c : Code) (p : Plan) (σ : St) (K : KT ρ) : Option ρ := iCode f81G tab f81B N c p σ K
noncomputable def f81c0 := codeAt (bodyOf Try.f81) []
theorem f81t0 {ρ : Type} (N : Nat) (a0 : List Int × Int) (left1 : Int) (K : KT ρ) : f81i N f81c0 .n (f81s0 a0 left1) (joinK (some f81lE) K) =
  laws_szTerm.Z0 N a0 left1 (fun t4 => K .ret (f81s1 t4)) := by kernel_rfl
theorem f81m (N : Nat) (a0 : List Int × Int) (left1 : Int) : f81i N f81c0 .n (f81s0 a0 left1) (joinK (some f81lE) (finK tab f81sig Try.f81.results.toList)) = laws_szTerm.Z0 N a0 left1 (fun t4 => some ((), (t4, ()))) :=
  (f81t0 N a0 left1 (finK tab f81sig Try.f81.results.toList)).trans (by kernel_rfl)
theorem f81ok (h : laws_szTerm.Spec) : EntryOk Try.prog 81 e81 :=
  entry_of_code (sig := f81sig) (c := f81c0) (pl := .n) (je := (some f81lE)) (B := f81B) Try.func81 (by kernel_rfl) (by kernel_rfl) (by kernel_rfl) tabOk f81GOk (by kernel_rfl) (by kernel_rfl) (by kernel_rfl) (by kernel_rfl) fun X hb hp => by
    obtain ⟨a0, left1, _⟩ := X
    obtain ⟨N, h⟩ := h a0 left1 hb.1
    exact ⟨N, (f81m N a0 left1).trans (h N (Nat.le_refl N))⟩
theorem e81ok : EntryOk Try.prog 81 e81 := f81ok laws_szTerm.ok
end Go.Fw
set_option linter.unusedVariables false
set_option linter.unusedSimpArgs false
set_option maxRecDepth 100000
namespace Go.Fw
open Go.Proofs
/-! ### loop.example/g03115/laws.szTermS -/
noncomputable def f57sig : Sig := ⟨[⟨.sl 79 (.pair (.sl 3 (.int .i64)) (.int .i64)), false, false⟩, ⟨.int .i64, false, false⟩], [⟨.int .i64, false, false⟩]⟩
noncomputable def e57 : Entry := ⟨f57sig, none, fun X => ((), ((laws_szTermS.g X.1 X.2.1), ()))⟩
noncomputable def f57G : Nat → Option Entry := addG (fun _ => none) 81 e81
theorem f57GOk : GOk Try.prog f57G := (GOk.nil).add e81ok (by kernel_rfl)
noncomputable def f57lE : Clean := ⟨[], [], [], [], []⟩
noncomputable def f57s0 (a0 : List (List Int × Int)) (left1 : Int) : St := initSt f57sig.ps (a0, (left1, ()))
noncomputable def f57s1 (a0 : List (List Int × Int)) (left1 : Int) : St := stOf [(0, .c (.sn 79 (.pair (.sl 3 (.int .i64)) (.int .i64)) a0 none)), (1, .c (.int .i64 left1))] [] []
noncomputable def f57l1 : Clean := ⟨[0, 1], [], [], [], []⟩
noncomputable def f57s2 (a0 : List (List Int × Int)) (left1 : Int) (i5 : Int) : St := stOf [(0, .c (.sn 79 (.pair (.sl 3 (.int .i64)) (.int .i64)) a0 none)), (1, .c (.int .i64 left1)), (5, .c (.int .i64 i5))] [] []
noncomputable def f57l2 : Clean := ⟨[0, 1, 5], [], [], [], []⟩
noncomputable def f57s3 (left1 : Int) : St := stOf [(1, .c (.int .i64 left1))] [] []
noncomputable def f57l3 : Clean := ⟨[1], [], [], [], []⟩
noncomputable def f57s4 (t4 : Int) : St := stOf [(4, .c (.int .i64 t4))] [] []
noncomputable def f57l4 : Clean := ⟨[4], [], [], [], []⟩
noncomputable def f57B : Nat → Option Clean := lookL [(0, f57l3), (1000000, f57l4)]
noncomputable abbrev f57i {ρ : Type} (N : Nat) (c : Code) (p : Plan) (σ : St) (K : KT ρ) : Option ρ := iCode f57G tab f57B N c p σ K
noncomputable def f57c1 := codeAt (bodyOf Try.f57) [0]
theorem f57t1 {ρ : Type} (N : Nat) (a0 : List (List Int × Int)) (left1 : Int) (K : KT ρ) : f57i N f57c1 .n (f57s0 a0 left1) (joinK (some f57l1) K) =
  laws_szTermS.Z1 N a0 left1 (fun a0 left1 => K .nrm (f57s1 a0 left1)) := by kernel_rfl
noncomputable def f57c3 := codeAt (bodyOf Try.f57) [1,0]
theorem f57t3 {ρ : Type} (N : Nat) (a0 : List (List Int × Int)) (left1 : Int) (K : KT ρ) : f57i N f57c3 .n (f57s1 a0 left1) (joinK (some f57l1) K) =
  laws_szTermS.Z3 N a0 left1 (fun a0 left1 => K .nrm (f57s1 a0 left1)) := by kernel_rfl
noncomputable def f57c5 := codeAt (bodyOf Try.f57) [1,1,0]
theorem f57t5 {ρ : Type} (N : Nat) (a0 : List (List Int × Int)) (left1 : Int) (K : KT ρ) : f57i N f57c5 .n (f57s1 a0 left1) (joinK (some f57l1) K) =
  laws_szTermS.Z5 N a0 left1 (fun a0 left1 => K .nrm (f57s1 a0 left1)) (fun t4 => K .ret (f57s4 t4)) := by kernel_rfl
noncomputable def f57c8 := codeAt (bodyOf Try.f57) [1,1,1,0,0]
theorem f57t8 {ρ : Type} (N : Nat) (a0 : List (List Int × Int)) (left1 : Int) (K : KT ρ) : f57i N f57c8 .n (f57s1 a0 left1) (joinK (some f57l2) K) =
  laws_szTermS.Z8 N a0 left1 (fun a0 left1 i5 => K .nrm (f57s2 a0 left1 i5)) := by kernel_rfl
noncomputable def f57c11 := codeAt (bodyOf Try.f57) [1,1,1,0,1,0,0]
theorem f57t11 {ρ : Type} (N : Nat) (a0 : List (List Int × Int)) (left1 : Int) (i5 : Int) (K : KT ρ) : f57i N f57c11 .n (f57s2 a0 left1 i5) (joinK (some f57l2) K) =
  laws_szTermS.Z11 N a0 left1 i5 (fun a0 left1 i5 => K .nrm (f57s2 a0 left1 i5)) (fun left1 => K (.exit 0) (f57s3 left1)) (fun t4 => K .ret (f57s4 t4)) := by kernel_rfl
noncomputable def f57c10 := codeAt (bodyOf Try.f57) [1,1,1,0,1,0]
noncomputable def f57p10 : Plan := .mk none (some f57l2) .n .n
noncomputable abbrev f57w10 {ρ : Type} (N : Nat) (M : Nat) (σ : St) (K : KT ρ) : Option ρ := loopC (fun σ K => f57i N f57c11 .n σ K) f57l2 M σ K
theorem f57t10L {ρ : Type} (N : Nat) (K : KT ρ) : ∀ (M : Nat) (a0 : List (List Int × Int)) (left1 : Int) (i5 : Int), f57w10 N M (f57s2 a0 left1 i5) K =
  laws_szTermS.Z10L N (fun left1 => K (.exit 0) (f57s3 left1)) (fun t4 => K .ret (f57s4 t4)) M a0 left1 i5
  | 0, _, _, _ => rfl
  | M + 1, a0, left1, i5 => viaRound (fun k => laws_szTermS.Z11 N a0 left1 i5 k (fun left1 => K (.exit 0) (f57s3 left1)) (fun t4 => K .ret (f57s4 t4))) (f57t11 N a0 left1 i5 (seqK (fun σ => f57w10 N M σ K) K)) (funext fun a0 => funext fun left1 => funext fun i5 => f57t10L N K M a0 left1 i5) (by kernel_rfl) (by kernel_rfl)
theorem f57t10 {ρ : Type} (N : Nat) (a0 : List (List Int × Int)) (left1 : Int) (i5 : Int) (K : KT ρ) : f57i N f57c10 f57p10 (f57s2 a0 left1 i5) (joinK (some f57l3) K) =
  laws_szTermS.Z10 N a0 left1 i5 (fun left1 => K (.exit 0) (f57s3 left1)) (fun t4 => K .ret (f57s4 t4)) :=
  viaLoop (by kernel_rfl) (by kernel_rfl) (σ' := f57s2 a0 left1 i5) (by kernel_rfl) (f57t10L N (joinK (some f57l3) K) N a0 left1 i5) (by kernel_rfl)
noncomputable def f57c9 := codeAt (bodyOf Try.f57) [1,1,1,0,1]
noncomputable def f57p9 : Plan := .mk (some f57l3) none f57p10 .n
theorem f57t9 {ρ : Type} (N : Nat) (a0 : List (List Int × Int)) (left1 : Int) (i5 : Int) (K : KT ρ) : f57i N f57c9 f57p9 (f57s2 a0 left1 i5) (joinK (some f57l3) K) =
  laws_szTermS.Z9 N a0 left1 i5 (fun left1 => K .nrm (f57s3 left1)) (fun t4 => K .ret (f57s4 t4)) :=
  viaBlock (by kernel_rfl) (by kernel_rfl) (f57t10 N a0 left1 i5 (blockK 0 (joinK (some f57l3) K))) (by kernel_rfl)
noncomputable def f57c7 := codeAt (bodyOf Try.f57) [1,1,1,0]
noncomputable def f57p7 : Plan := .mk (some f57l2) none .n f57p9
theorem f57t7 {ρ : Type} (N : Nat) (a0 : List (List Int × Int)) (left1 : Int) (K : KT ρ) : f57i N f57c7 f57p7 (f57s1 a0 left1) (joinK (some f57l3) K) =
  laws_szTermS.Z7 N a0 left1 (fun left1 => K .nrm (f57s3 left1)) (fun t4 => K .ret (f57s4 t4)) :=
  viaSeq (fun k => laws_szTermS.Z8 N a0 left1 k) (by kernel_rfl) (by kernel_rfl) (f57t8 N a0 left1 (seqK (fun σ => f57i N f57c9 f57p9 σ (joinK (some f57l3) K)) (joinK (some f57l3) K))) (funext fun a0 => funext fun left1 => funext fun i5 => f57t9 N a0 left1 i5 K) (by kernel_rfl) (by kernel_rfl)
noncomputable def f57c12 := codeAt (bodyOf Try.f57) [1,1,1,1]
theorem f57t12 {ρ : Type} (N : Nat) (left1 : Int) (K : KT ρ) : f57i N f57c12 .n (f57s3 left1) (joinK (some f57lE) K) =
  laws_szTermS.Z12 N left1 (fun t4 => K .ret (f57s4 t4)) := by kernel_rfl
noncomputable def f57c6 := codeAt (bodyOf Try.f57) [1,1,1]
noncomputable def f57p6 : Plan := .mk (some f57l3) none f57p7 .n
theorem f57t6 {ρ : Type} (N : Nat) (a0 : List (List Int × Int)) (left1 : Int) (K : KT ρ) : f57i N f57c6 f57p6 (f57s1 a0 left1) (joinK (some f57lE) K) =
  laws_szTermS.Z6 N a0 left1 (fun t4 => K .ret (f57s4 t4)) :=
  viaSeq (fun k => laws_szTermS.Z7 N a0 left1 k (fun t4 => K .ret (f57s4 t4))) (by kernel_rfl) (by kernel_rfl) (f57t7 N a0 left1 (seqK (fun σ => f57i N f57c12 .n σ (joinK (some f57lE) K)) (joinK (some f57lE) K))) (funext fun left1 => f57t12 N left1 K) (by kernel_rfl) (by kernel_rfl)
noncomputable def f57c4 := codeAt (bodyOf Try.f57) [1,1]
noncomputable def f57p4 : Plan := .mk (some f57l1) none .n f57p6
theorem f57t4 {ρ : Type} (N : Nat) (a0 : List (List Int × Int)) (left1 : Int) (K : KT ρ) : f57i N f57c4 f57p4 (f57s1 a0 left1) (joinK (some f57lE) K) =
  laws_szTermS.Z4 N a0 left1 (fun t4 => K .ret (f57s4 t4)) :=
  viaSeq (fun k => laws_szTermS.Z5 N a0 left1 k (fun t4 => K .ret (f57s4 t4))) (by kernel_rfl) (by kernel_rfl) (f57t5 N a0 left1 (seqK (fun σ => f57i N f57c6 f57p6 σ (joinK (some f57lE) K)) (joinK (some f57lE) K))) (funext fun a0 => funext fun left1 => f57t6 N a0 left1 K) (by kernel_rfl) (by kernel_rfl)
noncomputable def f57c2 := codeAt (bodyOf Try.f57) [1]
noncomputable def f57p2 : Plan := .mk (some f57l1) none .n f57p4
theorem f57t2 {ρ : Type} (N : Nat) (a0 : List (List Int × Int)) (left1 : Int) (K : KT ρ) : f57i N f57c2 f57p2 (f57s1 a0 left1) (joinK (some f57lE) K) =
  laws_szTermS.Z2 N a0 left1 (fun t4 => K .ret (f57s4 t4)) :=
  viaSeq (fun k => laws_szTermS.Z3 N a0 left1 k) (by kernel_rfl) (by kernel_rfl) (f57t3 N a0 left1 (seqK (fun σ => f57i N f57c4 f57p4 σ (joinK (some f57lE) K)) (joinK (some f57lE) K))) (funext fun a0 => funext fun left1 => f57t4 N a0 left1 K) (by kernel_rfl) (by kernel_rfl)
noncomputable def f57c0 := codeAt (bodyOf Try.f57) []
noncomputable def f57p0 : Plan := .mk (some f57l1) none .n f57p2
theorem f57t0 {ρ : Type} (N : Nat) (a0 : List (List Int × Int)) (left1 : Int) (K : KT ρ) : f57i N f57c0 f57p0 (f57s0 a0 left1) (joinK (some f57lE) K) =
  laws_szTermS.Z0 N a0 left1 (fun t4 => K .ret (f57s4 t4)) :=
  viaSeq (fun k => laws_szTermS.Z1 N a0 left1 k) (by kernel_rfl) (by kernel_rfl) (f57t1 N a0 left1 (seqK (fun σ => f57i N f57c2 f57p2 σ (joinK (some f57lE) K)) (joinK (some f57lE) K))) (funext fun a0 => funext fun left1 => f57t2 N a0 left1 K) (by kernel_rfl) (by kernel_rfl)
theorem f57m (N : Nat) (a0 : List (List Int × Int)) (left1 : Int) : f57i N f57c0 f57p0 (f57s0 a0 left1) (joinK (some f57lE) (finK tab f57sig Try.f57.results.toList)) = laws_szTermS.Z0 N a0 left1 (fun t4 => some ((), (t4, ()))) :=
  (f57t0 N a0 left1 (finK tab f57sig Try.f57.results.toList)).trans (by kernel_rfl)
theorem f57ok (h : laws_szTermS.Spec) : EntryOk Try.prog 57 e57 :=
  entry_of_code (sig := f57sig) (c := f57c0) (pl := f57p0) (je := (some f57lE)) (B := f57B) Try.func57 (by kernel_rfl) (by kernel_rfl) (by kernel_rfl) tabOk f57GOk (by kernel_rfl) (by kernel_rfl) (by kernel_rfl) (by kernel_rfl) fun X hb hp => by
    obtain ⟨a0, left1, _⟩ := X
    obtain ⟨N, h⟩ := h a0 left1 hb.1
    exact ⟨N, (f57m N a0 left1).trans (h N (Nat.le_refl N))⟩
theorem e57ok : EntryOk Try.prog 57 e57 := f57ok laws_szTermS.ok
end Go.Fw
set_option linter.unusedVariables false
set_option linter.unusedSimpArgs false
set_option maxRecDepth 100000
namespace Go.Fw
open Go.Proofs
/-! ### loop.example/g03115/laws.szLaurent -/
noncomputable def f24sig : Sig := ⟨[⟨.pair (.int .i64) (.sl 79 (.pair (.sl 3 (.int .i64)) (.int .i64))), true, false⟩, ⟨.int .i64, false, false⟩], [⟨.int .i64, false, false⟩]⟩
noncomputable def e24 : Entry := ⟨f24sig, none, fun X => ((), ((laws_szLaurent.g X.1 X.2.1), ()))⟩
noncomputable def f24G : Nat → Option Entry := addG (fun _ => none) 57 e57
theorem f24GOk : GOk Try.prog f24G := (GOk.nil).add e57ok (by kernel_rfl)
noncomputable def f24lE : Clean := ⟨[], [], [], [], []⟩
noncomputable def f24s0 (a0 : Int × List (List Int × Int)) (left1 : Int) : St := initSt f24sig.ps (a0, (left1, ()))
noncomputable def f24s1 (t4 : Int) : St := stOf [(4, .c (.int .i64 t4))] [] []
noncomputable def f24l1 : Clean := ⟨[4], [], [], [], []⟩
noncomputable def f24B : Nat → Option Clean := lookL [(1000000, f24l1)]
noncomputable abbrev f24i {ρ : Type} (N : Nat) (c : Code) (p : Plan) (σ : St) (K : KT ρ) : Option ρ := iCode f24G tab f24B N c p σ K
noncomputable def f24c0 := codeAt (bodyOf Try.f24) []
theorem f24t0 {ρ : Type} (N : Nat) (a0 : Int × List (List Int × Int)) (left1 : Int) (K : KT ρ) : f24i N f24c0 .n (f24s0 a0 left1) (joinK (some f24lE) K) =
  laws_szLaurent.Z0 N a0 left1 (fun t4 => K .ret (f24s1 t4)) := by kernel_rfl
theorem f24m (N : Nat) (a0 : Int × List (List Int × Int)) (left1 : Int) : f24i N f24c0 .n (f24s0 a0 left1) (joinK (some f24lE) (finK tab f24sig Try.f24.results.toList)) = laws_szLaurent.Z0 N a0 left1 (fun t4 => some ((), (t4, ()))) :=
  (f24t0 N a0 left1 (finK tab f24sig Try.f24.results.toList)).trans (by kernel_rfl)
theorem f24ok (h : laws_szLaurent.Spec) : EntryOk Try.prog 24 e24 :=
  entry_of_code (sig := f24sig) (c := f24c0) (pl := .n) (je := (some f24lE)) (B := f24B) Try.func24 (by kernel_rfl) (by kernel_rfl) (by kernel_rfl) tabOk f24GOk (by kernel_rfl) (by kernel_rfl) (by kernel_rfl) (by kernel_rfl) fun X hb hp => by
    obtain ⟨a0, left1, _⟩ := X
    obtain ⟨N, h⟩ := h a0 left1 hb.1
    exact ⟨N, (f24m N a0 left1).trans (h N (Nat.le_refl N))⟩
theorem e24ok : EntryOk Try.prog 24 e24 := f24ok laws_szLaurent.ok
end Go.Fw
set_option linter.unusedVariables false
set_option linter.unusedSimpArgs false
set_option maxRecDepth 100000
namespace Go.Fw
open Go.Proofs
/-! ### loop.example/g03115/laws.toIntS -/
noncomputable def f20sig : Sig := ⟨[⟨.sl 3 (.int .i64), false, false⟩], [⟨.sl 3 (.int .i64), false, false⟩]⟩
noncomputable def e20 : Entry := ⟨f20sig, (some fun X => laws_toIntS.P X.1), fun X => ((), ((laws_toIntS.g X.1), ()))⟩
noncomputable def f20G : Nat → Option Entry := (fun _ => none)
theorem f20GOk : GOk Try.prog f20G := GOk.nil
noncomputable def f20lE : Clean := ⟨[], [], [], [], []⟩
noncomputable def f20s0 (a0 : List Int) : St := initSt f20sig.ps (a0, ())
noncomputable def f20s1 (a0 : List Int) : St := stOf [(0, .c (.sn 3 (.int .i64) a0 none))] [] []
noncomputable def f20l1 : Clean := ⟨[0], [], [], [], []⟩
noncomputable def f20s2 (out3 : List Int) (a0 : List Int) : St := stOf [(0, .c (.sn 3 (.int .i64) a0 none)), (3, .c (.own 1000192))] [] [(1000192, (⟨3, .int .i64, out3, true, false⟩ : Row))]
noncomputable def f20l2 : Clean := ⟨[0, 3], [], [], [], [(⟨false, 3, 0⟩, 1000192)]⟩
noncomputable def f20s3 (out3 : List Int) (a0 : List Int) (i4 : Int) : St := stOf [(0, .c (.sn 3 (.int .i64) a0 none)), (3, .c (.own 1000192)), (4, .c (.int .i64 i4))] [] [(1000192, (⟨3, .int .i64, out3, true, false⟩ : Row))]
noncomputable def f20l3 : Clean := ⟨[0, 3, 4], [], [], [], [(⟨false, 3, 0⟩, 1000192)]⟩
noncomputable def f20s4 (out3 : List Int) : St := stOf [(3, .c (.own 1000192))] [] [(1000192, (⟨3, .int .i64, out3, true, false⟩ : Row))]
noncomputable def f20l4 : Clean := ⟨[3], [], [], [], [(⟨false, 3, 0⟩, 1000192)]⟩
noncomputable def f20s5 (t2 : List Int) : St := stOf [(2, .c (.own 1000128))] [] [(1000128, (⟨3, .int .i64, t2, true, false⟩ : Row))]
noncomputable def f20l5 : Clean := ⟨[2], [], [], [], [(⟨false, 2, 0⟩, 1000128)]⟩
noncomputable def f20B : Nat → Option Clean := lookL [(0, f20l4), (1000000, f20l5)]
noncomputable abbrev f20i {ρ : Type} (N : Nat) (c : Code) (p : Plan) (σ : St) (K : KT ρ) : Option ρ := iCode f20G tab f20B N c p σ K
noncomputable def f20c1 := codeAt (bodyOf Try.f20) [0]
theorem f20t1 {ρ : Type} (N : Nat) (a0 : List Int) (K : KT ρ) : f20i N f20c1 .n (f20s0 a0) (joinK (some f20l1) K) =
  laws_toIntS.Z1 N a0 (fun a0 => K .nrm (f20s1 a0)) := by kernel_rfl
noncomputable def f20c3 := codeAt (bodyOf Try.f20) [1,0]
theorem f20t3 {ρ : Type} (N : Nat) (a0 : List Int) (K : KT ρ) : f20i N f20c3 .n (f20s1 a0) (joinK (some f20l2) K) =
  laws_toIntS.Z3 N a0 (fun out3 a0 => K .nrm (f20s2 out3 a0)) := by kernel_rfl
noncomputable def f20c6 := codeAt (bodyOf Try.f20) [1,1,0,0]
theorem f20t6 {ρ : Type} (N : Nat) (out3 : List Int) (a0 : List Int) (K : KT ρ) : f20i N f20c6 .n (f20s2 out3 a0) (joinK (some f20l3) K) =
  laws_toIntS.Z6 N out3 a0 (fun out3 a0 i4 => K .nrm (f20s3 out3 a0 i4)) := by kernel_rfl
noncomputable def f20c9 := codeAt (bodyOf Try.f20) [1,1,0,1,0,0]
theorem f20t9 {ρ : Type} (N : Nat) (out3 : List Int) (a0 : List Int) (i4 : Int) (K : KT ρ) : f20i N f20c9 .n (f20s3 out3 a0 i4) (joinK (some f20l3) K) =
  laws_toIntS.Z9 N out3 a0 i4 (fun out3 a0 i4 => K .nrm (f20s3 out3 a0 i4)) (fun out3 => K (.exit 0) (f20s4 out3)) := by kernel_rfl
noncomputable def f20c8 := codeAt (bodyOf Try.f20) [1,1,0,1,0]
noncomputable def f20p8 : Plan := .mk none (some f20l3) .n .n
noncomputable abbrev f20w8 {ρ : Type} (N : Nat) (M : Nat) (σ : St) (K : KT ρ) : Option ρ := loopC (fun σ K => f20i N f20c9 .n σ K) f20l3 M σ K
theorem f20t8L {ρ : Type} (N : Nat) (K : KT ρ) : ∀ (M : Nat) (out3 : List Int) (a0 : List Int) (i4 : Int), f20w8 N M (f20s3 out3 a0 i4) K =
  laws_toIntS.Z8L N (fun out3 => K (.exit 0) (f20s4 out3)) M out3 a0 i4
  | 0, _, _, _ => rfl
  | M + 1, out3, a0, i4 => viaRound (fun k => laws_toIntS.Z9 N out3 a0 i4 k (fun out3 => K (.exit 0) (f20s4 out3))) (f20t9 N out3 a0 i4 (seqK (fun σ => f20w8 N M σ K) K)) (funext fun out3 => funext fun a0 => funext fun i4 => f20t8L N K M out3 a0 i4) (by kernel_rfl) (by kernel_rfl)
theorem f20t8 {ρ : Type} (N : Nat) (out3 : List Int) (a0 : List Int) (i4 : Int) (K : KT ρ) : f20i N f20c8 f20p8 (f20s3 out3 a0 i4) (joinK (some f20l4) K) =
  laws_toIntS.Z8 N out3 a0 i4 (fun out3 => K (.exit 0) (f20s4 out3)) :=
  viaLoop (by kernel_rfl) (by kernel_rfl) (σ' := f20s3 out3 a0 i4) (by kernel_rfl) (f20t8L N (joinK (some f20l4) K) N out3 a0 i4) (by kernel_rfl)
noncomputable def f20c7 := codeAt (bodyOf Try.f20) [1,1,0,1]
noncomputable def f20p7 : Plan := .mk (some f20l4) none f20p8 .n
theorem f20t7 {ρ : Type} (N : Nat) (out3 : List Int) (a0 : List Int) (i4 : Int) (K : KT ρ) : f20i N f20c7 f20p7 (f20s3 out3 a0 i4) (joinK (some f20l4) K) =
  laws_toIntS.Z7 N out3 a0 i4 (fun out3 => K .nrm (f20s4 out3)) :=
  viaBlock (by kernel_rfl) (by kernel_rfl) (f20t8 N out3 a0 i4 (blockK 0 (joinK (some f20l4) K))) (by kernel_rfl)
noncomputable def f20c5 := codeAt (bodyOf Try.f20) [1,1,0]
noncomputable def f20p5 : Plan := .mk (some f20l3) none .n f20p7
theorem f20t5 {ρ : Type} (N : Nat) (out3 : List Int) (a0 : List Int) (K : KT ρ) : f20i N f20c5 f20p5 (f20s2 out3 a0) (joinK (some f20l4) K) =
  laws_toIntS.Z5 N out3 a0 (fun out3 => K .nrm (f20s4 out3)) :=
  viaSeq (fun k => laws_toIntS.Z6 N out3 a0 k) (by kernel_rfl) (by kernel_rfl) (f20t6 N out3 a0 (seqK (fun σ => f20i N f20c7 f20p7 σ (joinK (some f20l4) K)) (joinK (some f20l4) K))) (funext fun out3 => funext fun a0 => funext fun i4 => f20t7 N out3 a0 i4 K) (by kernel_rfl) (by kernel_rfl)
noncomputable def f20c10 := codeAt (bodyOf Try.f20) [1,1,1]
theorem f20t10 {ρ : Type} (N : Nat) (out3 : List Int) (K : KT ρ) : f20i N f20c10 .n (f20s4 out3) (joinK (some f20lE) K) =
  laws_toIntS.Z10 N out3 (fun t2 => K .ret (f20s5 t2)) := by kernel_rfl
noncomputable def f20c4 := codeAt (bodyOf Try.f20) [1,1]
noncomputable def f20p4 : Plan := .mk (some f20l4) none f20p5 .n
theorem f20t4 {ρ : Type} (N : Nat) (out3 : List Int) (a0 : List Int) (K : KT ρ) : f20i N f20c4 f20p4 (f20s2 out3 a0) (joinK (some f20lE) K) =
  laws_toIntS.Z4 N out3 a0 (fun t2 => K .ret (f20s5 t2)) :=
  viaSeq (fun k => laws_toIntS.Z5 N out3 a0 k) (by kernel_rfl) (by kernel_rfl) (f20t5 N out3 a0 (seqK (fun σ => f20i N f20c10 .n σ (joinK (some f20lE) K)) (joinK (some f20lE) K))) (funext fun out3 => f20t10 N out3 K) (by kernel_rfl) (by kernel_rfl)
noncomputable def f20c2 := codeAt (bodyOf Try.f20) [1]
noncomputable def f20p2 : Plan := .mk (some f20l2) none .n f20p4
theorem f20t2 {ρ : Type} (N : Nat) (a0 : List Int) (K : KT ρ) : f20i N f20c2 f20p2 (f20s1 a0) (joinK (some f20lE) K) =
  laws_toIntS.Z2 N a0 (fun t2 => K .ret (f20s5 t2)) :=
  viaSeq (fun k => laws_toIntS.Z3 N a0 k) (by kernel_rfl) (by kernel_rfl) (f20t3 N a0 (seqK (fun σ => f20i N f20c4 f20p4 σ (joinK (some f20lE) K)) (joinK (some f20lE) K))) (funext fun out3 => funext fun a0 => f20t4 N out3 a0 K) (by kernel_rfl) (by kernel_rfl)
noncomputable def f20c0 := codeAt (bodyOf Try.f20) []
noncomputable def f20p0 : Plan := .mk (some f20l1) none .n f20p2
theorem f20t0 {ρ : Type} (N : Nat) (a0 : List Int) (K : KT ρ) : f20i N f20c0 f20p0 (f20s0 a0) (joinK (some f20lE) K) =
  laws_toIntS.Z0 N a0 (fun t2 => K .ret (f20s5 t2)) :=
  viaSeq (fun k => laws_toIntS.Z1 N a0 k) (by kernel_rfl) (by kernel_rfl) (f20t1 N a0 (seqK (fun σ => f20i N f20c2 f20p2 σ (joinK (some f20lE) K)) (joinK (some f20lE) K))) (funext fun a0 => f20t2 N a0 K) (by kernel_rfl) (by kernel_rfl)
theorem f20m (N : Nat) (a0 : List Int) : f20i N f20c0 f20p0 (f20s0 a0) (joinK (some f20lE) (finK tab f20sig Try.f20.results.toList)) = laws_toIntS.Z0 N a0 (fun t2 => some ((), (t2, ()))) :=
  (f20t0 N a0 (finK tab f20sig Try.f20.results.toList)).trans (by kernel_rfl)
theorem f20ok (h : laws_toIntS.Spec) : EntryOk Try.prog 20 e20 :=
  entry_of_code (sig := f20sig) (c := f20c0) (pl := f20p0) (je := (some f20lE)) (B := f20B) Try.func20 (by kernel_rfl) (by kernel_rfl) (by kernel_rfl) tabOk f20GOk (by kernel_rfl) (by kernel_rfl) (by kernel_rfl) (by kernel_rfl) fun X hb hp => by
    obtain ⟨a0, _⟩ := X
    obtain ⟨N, h⟩ := h a0 hb.1 hp
    exact ⟨N, (f20m N a0).trans (h N (Nat.le_refl N))⟩
theorem e20ok : EntryOk Try.prog 20 e20 := f20ok laws_toIntS.ok
end Go.Fw
set_option linter.unusedVariables false
set_option linter.unusedSimpArgs false
set_option maxRecDepth 100000
namespace Go.Fw
open Go.Proofs
/-! ### loop.example/g03115/laws.toTerm -/
noncomputable def f82sig : Sig := ⟨[⟨.pair (.sl 3 (.int .i64)) (.int .i64), true, false⟩], [⟨.pair (.sl 3 (.int .i64)) (.int .i64), true, false⟩]⟩
noncomputable def e82 : Entry := ⟨f82sig, (some fun X => laws_toTerm.P X.1), fun X => ((), ((laws_toTerm.g X.1), ()))⟩
noncomputable def f82G : Nat → Option Entry := addG (fun _ => none) 20 e20
theorem f82GOk : GOk Try.prog f82G := (GOk.nil).add e20ok (by kernel_rfl)
noncomputable def f82lE : Clean := ⟨[], [], [], [], []⟩
noncomputable def f82s0 (a0 : List Int × Int) : St := initSt f82sig.ps (a0, ())
noncomputable def f82s1 (t2_0 : List Int) (t2_1 : Int) : St := stOf [(2, .c (.box 2 0))] [(2, (59, [.own 20000128, .int .i64 t2_1]))] [(20000128, (⟨3, .int .i64, t2_0, true, false⟩ : Row))]
noncomputable def f82l1 : Clean := ⟨[2], [2], [], [], [(⟨true, 2, 0⟩, 20000128)]⟩
noncomputable def f82B : Nat → Option Clean := lookL [(1000000, f82l1)]
noncomputable abbrev f82i {ρ : Type} (N : Nat) (c : Code) (p : Plan) (σ : St) (K : KT ρ) : Option ρ := iCode f82G tab f82B N c p σ K
noncomputable def f82c0 := codeAt (bodyOf Try.f82) []
theorem f82t0 {ρ : Type} (N : Nat) (a0 : List Int × Int) (K : KT ρ) : f82i N f82c0 .n (f82s0 a0) (joinK (some f82lE) K) =
  laws_toTerm.Z0 N a0 (fun t2_0 t2_1 => K .ret (f82s1 t2_0 t2_1)) := by kernel_rfl
theorem f82m (N : Nat) (a0 : List Int × Int) : f82i N f82c0 .n (f82s0 a0) (joinK (some f82lE) (finK tab f82sig Try.f82.results.toList)) = laws_toTerm.Z0 N a0 (fun t2_0 t2_1 => some ((), ((t2_0, t2_1), ()))) :=
  (f82t0 N a0 (finK tab f82sig Try.f82.results.toList)).trans (by kernel_rfl)
theorem f82ok (h : laws_toTerm.Spec) : EntryOk Try.prog 82 e82 :=
  entry_of_code (sig := f82sig) (c := f82c0) (pl := .n) (je := (some f82lE)) (B := f82B) Try.func82 (by kernel_rfl) (by kernel_rfl) (by kernel_rfl) tabOk f82GOk (by kernel_rfl) (by kernel_rfl) (by kernel_rfl) (by kernel_rfl) fun X hb hp => by
    obtain ⟨a0, _⟩ := X
    obtain ⟨N, h⟩ := h a0 hb.1 hp
    exact ⟨N, (f82m N a0).trans (h N (Nat.le_refl N))⟩
theorem e82ok : EntryOk Try.prog 82 e82 := f82ok laws_toTerm.ok
end Go.Fw
set_option linter.unusedVariables false
set_option linter.unusedSimpArgs false
set_option maxRecDepth 100000
namespace Go.Fw
open Go.Proofs
/-! ### loop.example/g03115/laws.toTermS -/
noncomputable def f58sig : Sig := ⟨[⟨.sl 79 (.pair (.sl 3 (.int .i64)) (.int .i64)), false, false⟩], [⟨.sl 59 (.pair (.sl 3 (.int .i64)) (.int .i64)), false, false⟩]⟩
noncomputable def e58 : Entry := ⟨f58sig, (some fun X => laws_toTermS.P X.1), fun X => ((), ((laws_toTermS.g X.1), ()))⟩
noncomputable def f58G : Nat → Option Entry := addG (fun _ => none) 82 e82
theorem f58GOk : GOk Try.prog f58G := (GOk.nil).add e82ok (by kernel_rfl)
noncomputable def f58lE : Clean := ⟨[], [], [], [], []⟩
noncomputable def f58s0 (a0 : List (List Int × Int)) : St := initSt f58sig.ps (a0, ())
noncomputable def f58s1 (a0 : List (List Int × Int)) : St := stOf [(0, .c (.sn 79 (.pair (.sl 3 (.int .i64)) (.int .i64)) a0 none))] [] []
noncomputable def f58l1 : Clean := ⟨[0], [], [], [], []⟩
noncomputable def f58s2 (out3 : List (List Int × Int)) (a0 : List (List Int × Int)) : St := stOf [(0, .c (.sn 79 (.pair (.sl 3 (.int .i64)) (.int .i64)) a0 none)), (3, .c (.own 1000192))] [] [(1000192, (⟨59, .pair (.sl 3 (.int .i64)) (.int .i64), out3, true, false⟩ : Row))]
noncomputable def f58l2 : Clean := ⟨[0, 3], [], [], [], [(⟨false, 3, 0⟩, 1000192)]⟩
noncomputable def f58s3 (out3 : List (List Int × Int)) (a0 : List (List Int × Int)) (i4 : Int) : St := stOf [(0, .c (.sn 79 (.pair (.sl 3 (.int .i64)) (.int .i64)) a0 none)), (3, .c (.own 1000192)), (4, .c (.int .i64 i4))] [] [(1000192, (⟨59, .pair (.sl 3 (.int .i64)) (.int .i64), out3, true, false⟩ : Row))]
noncomputable def f58l3 : Clean := ⟨[0, 3, 4], [], [], [], [(⟨false, 3, 0⟩, 1000192)]⟩
noncomputable def f58s4 (out3 : List (List Int × Int)) : St := stOf [(3, .c (.own 1000192))] [] [(1000192, (⟨59, .pair (.sl 3 (.int .i64)) (.int .i64), out3, true, false⟩ : Row))]
noncomputable def f58l4 : Clean := ⟨[3], [], [], [], [(⟨false, 3, 0⟩, 1000192)]⟩
noncomputable def f58s5 (t2 : List (List Int × Int)) : St := stOf [(2, .c (.own 1000128))] [] [(1000128, (⟨59, .pair (.sl 3 (.int .i64)) (.int .i64), t2, true, false⟩ : Row))]
noncomputable def f58l5 : Clean := ⟨[2], [], [], [], [(⟨false, 2, 0⟩, 1000128)]⟩
noncomputable def f58B : Nat → Option Clean := lookL [(0, f58l4), (1000000, f58l5)]
noncomputable abbrev f58i {ρ : Type} (N : Nat) (c : Code) (p : Plan) (σ : St) (K : KT ρ) : Option ρ := iCode f58G tab f58B N c p σ K
noncomputable def f58c1 := codeAt (bodyOf Try.f58) [0]
theorem f58t1 {ρ : Type} (N : Nat) (a0 : List (List Int × Int)) (K : KT ρ) : f58i N f58c1 .n (f58s0 a0) (joinK (some f58l1) K) =
  laws_toTermS.Z1 N a0 (fun a0 => K .nrm (f58s1 a0)) := by kernel_rfl
noncomputable def f58c3 := codeAt (bodyOf Try.f58) [1,0]
theorem f58t3 {ρ : Type} (N : Nat) (a0 : List (List Int × Int)) (K : KT ρ) : f58i N f58c3 .n (f58s1 a0) (joinK (some f58l2) K) =
  laws_toTermS.Z3 N a0 (fun out3 a0 => K .nrm (f58s2 out3 a0)) := by kernel_rfl
noncomputable def f58c6 := codeAt (bodyOf Try.f58) [1,1,0,0]
theorem f58t6 {ρ : Type} (N : Nat) (out3 : List (List Int × Int)) (a0 : List (List Int × Int)) (K : KT ρ) : f58i N f58c6 .n (f58s2 out3 a0) (joinK (some f58l3) K) =
  laws_toTermS.Z6 N out3 a0 (fun out3 a0 i4 => K .nrm (f58s3 out3 a0 i4)) := by kernel_rfl
noncomputable def f58c9 := codeAt (bodyOf Try.f58) [1,1,0,1,0,0]
theorem f58t9 {ρ : Type} (N : Nat) (out3 : List (List Int × Int)) (a0 : List (List Int × Int)) (i4 : Int) (K : KT ρ) : f58i N f58c9 .n (f58s3 out3 a0 i4) (joinK (some f58l3) K) =
  laws_toTermS.Z9 N out3 a0 i4 (fun out3 a0 i4 => K .nrm (f58s3 out3 a0 i4)) (fun out3 => K (.exit 0) (f58s4 out3)) := by kernel_rfl
noncomputable def f58c8 := codeAt (bodyOf Try.f58) [1,1,0,1,0]
noncomputable def f58p8 : Plan := .mk none (some f58l3) .n .n
noncomputable abbrev f58w8 {ρ : Type} (N : Nat) (M : Nat) (σ : St) (K : KT ρ) : Option ρ := loopC (fun σ K => f58i N f58c9 .n σ K) f58l3 M σ K
theorem f58t8L {ρ : Type} (N : Nat) (K : KT ρ) : ∀ (M : Nat) (out3 : List (List Int × Int)) (a0 : List (List Int × Int)) (i4 : Int), f58w8 N M (f58s3 out3 a0 i4) K =
  laws_toTermS.Z8L N (fun out3 => K (.exit 0) (f58s4 out3)) M out3 a0 i4
  | 0, _, _, _ => rfl
  | M + 1, out3, a0, i4 => viaRound (fun k => laws_toTermS.Z9 N out3 a0 i4 k (fun out3 => K (.exit 0) (f58s4 out3))) (f58t9 N out3 a0 i4 (seqK (fun σ => f58w8 N M σ K) K)) (funext fun out3 => funext fun a0 => funext fun i4 => f58t8L N K M out3 a0 i4) (by kernel_rfl) (by kernel_rfl)
theorem f58t8 {ρ : Type} (N : Nat) (out3 : List (List Int × Int)) (a0 : List (List Int × Int)) (i4 : Int) (K : KT ρ) : f58i N f58c8 f58p8 (f58s3 out3 a0 i4) (joinK (some f58l4) K) =
  laws_toTermS.Z8 N out3 a0 i4 (fun out3 => K (.exit 0) (f58s4 out3)) :=
  viaLoop (by kernel_rfl) (by kernel_rfl) (σ' := f58s3 out3 a0 i4) (by kernel_rfl) (f58t8L N (joinK (some f58l4) K) N out3 a0 i4) (by kernel_rfl)
noncomputable def f58c7 := codeAt (bodyOf Try.f58) [1,1,0,1]
noncomputable def f58p7 : Plan := .mk (some f58l4) none f58p8 .n
theorem f58t7 {ρ : Type} (N : Nat) (out3 : List (List Int × Int)) (a0 : List (List Int × Int)) (i4 : Int) (K : KT ρ) : f58i N f58c7 f58p7 (f58s3 out3 a0 i4) (joinK (some f58l4) K) =
  laws_toTermS.Z7 N out3 a0 i4 (fun out3 => K .nrm (f58s4 out3)) :=
  viaBlock (by kernel_rfl) (by kernel_rfl) (f58t8 N out3 a0 i4 (blockK 0 (joinK (some f58l4) K))) (by kernel_rfl)
noncomputable def f58c5 := codeAt (bodyOf Try.f58) [1,1,0]
noncomputable def f58p5 : Plan := .mk (some f58l3) none .n f58p7
theorem f58t5 {ρ : Type} (N : Nat) (out3 : List (List Int × Int)) (a0 : List (List Int × Int)) (K : KT ρ) : f58i N f58c5 f58p5 (f58s2 out3 a0) (joinK (some f58l4) K) =
  laws_toTermS.Z5 N out3 a0 (fun out3 => K .nrm (f58s4 out3)) :=
  viaSeq (fun k => laws_toTermS.Z6 N out3 a0 k) (by kernel_rfl) (by kernel_rfl) (f58t6 N out3 a0 (seqK (fun σ => f58i N f58c7 f58p7 σ (joinK (some f58l4) K)) (joinK (some f58l4) K))) (funext fun out3 => funext fun a0 => funext fun i4 => f58t7 N out3 a0 i4 K) (by kernel_rfl) (by kernel_rfl)
noncomputable def f58c10 := codeAt (bodyOf Try.f58) [1,1,1]
theorem f58t10 {ρ : Type} (N : Nat) (out3 : List (List Int × Int)) (K : KT ρ) : f58i N f58c10 .n (f58s4 out3) (joinK (some f58lE) K) =
  laws_toTermS.Z10 N out3 (fun t2 => K .ret (f58s5 t2)) := by kernel_rfl
noncomputable def f58c4 := codeAt (bodyOf Try.f58) [1,1]
noncomputable def f58p4 : Plan := .mk (some f58l4) none f58p5 .n
theorem f58t4 {ρ : Type} (N : Nat) (out3 : List (List Int × Int)) (a0 : List (List Int × Int)) (K : KT ρ) : f58i N f58c4 f58p4 (f58s2 out3 a0) (joinK (some f58lE) K) =
  laws_toTermS.Z4 N out3 a0 (fun t2 => K .ret (f58s5 t2)) :=
  viaSeq (fun k => laws_toTermS.Z5 N out3 a0 k) (by kernel_rfl) (by kernel_rfl) (f58t5 N out3 a0 (seqK (fun σ => f58i N f58c10 .n σ (joinK (some f58lE) K)) (joinK (some f58lE) K))) (funext fun out3 => f58t10 N out3 K) (by kernel_rfl) (by kernel_rfl)
noncomputable def f58c2 := codeAt (bodyOf Try.f58) [1]
noncomputable def f58p2 : Plan := .mk (some f58l2) none .n f58p4
theorem f58t2 {ρ : Type} (N : Nat) (a0 : List (List Int × Int)) (K : KT ρ) : f58i N f58c2 f58p2 (f58s1 a0) (joinK (some f58lE) K) =
  laws_toTermS.Z2 N a0 (fun t2 => K .ret (f58s5 t2)) :=
  viaSeq (fun k => laws_toTermS.Z3 N a0 k) (by kernel_rfl) (by kernel_rfl) (f58t3 N a0 (seqK (fun σ => f58i N f58c4 f58p4 σ (joinK (some f58lE) K)) (joinK (some f58lE) K))) (funext fun out3 => funext fun a0 => f58t4 N out3 a0 K) (by kernel_rfl) (by kernel_rfl)
noncomputable def f58c0 := codeAt (bodyOf Try.f58) []
noncomputable def f58p0 : Plan := .mk (some f58l1) none .n f58p2
theorem f58t0 {ρ : Type} (N : Nat) (a0 : List (List Int × Int)) (K : KT ρ) : f58i N f58c0 f58p0 (f58s0 a0) (joinK (some f58lE) K) =
  laws_toTermS.Z0 N a0 (fun t2 => K .ret (f58s5 t2)) :=
  viaSeq (fun k => laws_toTermS.Z1 N a0 k) (by kernel_rfl) (by kernel_rfl) (f58t1 N a0 (seqK (fun σ => f58i N f58c2 f58p2 σ (joinK (some f58lE) K)) (joinK (some f58lE) K))) (funext fun a0 => f58t2 N a0 K) (by kernel_rfl) (by kernel_rfl)
theorem f58m (N : Nat) (a0 : List (List Int × Int)) : f58i N f58c0 f58p0 (f58s0 a0) (joinK (some f58lE) (finK tab f58sig Try.f58.results.toList)) = laws_toTermS.Z0 N a0 (fun t2 => some ((), (t2, ()))) :=
  (f58t0 N a0 (finK tab f58sig Try.f58.results.toList)).trans (by kernel_rfl)
theorem f58ok (h : laws_toTermS.Spec) : EntryOk Try.prog 58 e58 :=
  entry_of_code (sig := f58sig) (c := f58c0) (pl := f58p0) (je := (some f58lE)) (B := f58B) Try.func58 (by kernel_rfl) (by kernel_rfl) (by kernel_rfl) tabOk f58GOk (by kernel_rfl) (by kernel_rfl) (by kernel_rfl) (by kernel_rfl) fun X hb hp => by
    obtain ⟨a0, _⟩ := X
    obtain ⟨N, h⟩ := h a0 hb.1 hp
    exact ⟨N, (f58m N a0).trans (h N (Nat.le_refl N))⟩
theorem e58ok : EntryOk Try.prog 58 e58 := f58ok laws_toTermS.ok
end Go.Fw
set_option linter.unusedVariables false
set_option linter.unusedSimpArgs false
set_option maxRecDepth 100000
namespace Go.Fw
open Go.Proofs
/-! ### loop.example/g03115/laws.toLaurent -/
noncomputable def f26sig : Sig := ⟨[⟨.pair (.int .i64) (.sl 79 (.pair (.sl 3 (.int .i64)) (.int .i64))), true, false⟩], [⟨.pair (.int .i64) (.sl 59 (.pair (.sl 3 (.int .i64)) (.int .i64))), true, false⟩]⟩
noncomputable def e26 : Entry := ⟨f26sig, (some fun X => laws_toLaurent.P X.1), fun X => ((), ((laws_toLaurent.g X.1), ()))⟩
noncomputable def f26G : Nat → Option Entry := addG (fun _ => none) 58 e58
theorem f26GOk : GOk Try.prog f26G := (GOk.nil).add e58ok (by kernel_rfl)
noncomputable def f26lE : Clean := ⟨[], [], [], [], []⟩
noncomputable def f26s0 (a0 : Int × List (List Int × Int)) : St := initSt f26sig.ps (a0, ())
noncomputable def f26s1 (t2_1 : List (List Int × Int)) (t2_0 : Int) : St := stOf [(2, .c (.box 2 0))] [(2, (25, [.int .i64 t2_0, .own 20000129]))] [(20000129, (⟨59, .pair (.sl 3 (.int .i64)) (.int .i64), t2_1, true, false⟩ : Row))]
noncomputable def f26l1 : Clean := ⟨[2], [2], [], [], [(⟨true, 2, 1⟩, 20000129)]⟩
noncomputable def f26B : Nat → Option Clean := lookL [(1000000, f26l1)]
noncomputable abbrev f26i {ρ : Type} (N : Nat) (c : Code) (p : Plan) (σ : St) (K : KT ρ) : Option ρ := iCode f26G tab f26B N c p σ K
noncomputable def f26c0 := codeAt (bodyOf Try.f26) []
theorem f26t0 {ρ : Type} (N : Nat) (a0 : Int × List (List Int × Int)) (K : KT ρ) : f26i N f26c0 .n (f26s0 a0) (joinK (some f26lE) K) =
  laws_toLaurent.Z0 N a0 (fun t2_1 t2_0 => K .ret (f26s1 t2_1 t2_0)) := by kernel_rfl
theorem f26m (N : Nat) (a0 : Int × List (List Int × Int)) : f26i N f26c0 .n (f26s0 a0) (joinK (some f26lE) (finK tab f26sig Try.f26.results.toList)) = laws_toLaurent.Z0 N a0 (fun t2_1 t2_0 => some ((), ((t2_0, t2_1), ()))) :=
  (f26t0 N a0 (finK tab f26sig Try.f26.results.toList)).trans (by kernel_rfl)
theorem f26ok (h : laws_toLaurent.Spec) : EntryOk Try.prog 26 e26 :=
  entry_of_code (sig := f26sig) (c := f26c0) (pl := .n) (je := (some f26lE)) (B := f26B) Try.func26 (by kernel_rfl) (by kernel_rfl) (by kernel_rfl) tabOk f26GOk (by kernel_rfl) (by kernel_rfl) (by kernel_rfl) (by kernel_rfl) fun X hb hp => by
    obtain ⟨a0, _⟩ := X
    obtain ⟨N, h⟩ := h a0 hb.1 hp
    exact ⟨N, (f26m N a0).trans (h N (Nat.le_refl N))⟩
theorem e26ok : EntryOk Try.prog 26 e26 := f26ok laws_toLaurent.ok
end Go.Fw
set_option linter.unusedVariables false
set_option linter.unusedSimpArgs false
set_option maxRecDepth 100000
namespace Go.Fw
open Go.Proofs
/-! ### loop.example/g03115/spec.l1In -/
noncomputable def f48sig : Sig := ⟨[⟨.int .i64, false, false⟩, ⟨.int .i64, false, false⟩, ⟨.int .i64, false, false⟩], [⟨.bool, false, false⟩]⟩
noncomputable def e48 : Entry := ⟨f48sig, none, fun X => ((), ((spec_l1In.g X.1 X.2.1 X.2.2.1), ()))⟩
noncomputable def f48G : Nat → Option Entry := (fun _ => none)
theorem f48GOk : GOk Try.prog f48G := GOk.nil
noncomputable def f48lE : Clean := ⟨[], [], [], [], []⟩
noncomputable def f48s0 (n0 : Int) (low1 : Int) (high2 : Int) : St := initSt f48sig.ps (n0, (low1, (high2, ())))
noncomputable def f48s1 (t6 : Bool) : St := stOf [(6, .c (.bool t6))] [] []
noncomputable def f48l1 : Clean := ⟨[6], [], [], [], []⟩
noncomputable def f48B : Nat → Option Clean := lookL [(1000000, f48l1)]
noncomputable abbrev f48i {ρ : Type} (N : Nat) (c : Code) (p : Plan) (σ : St) (K : KT ρ) : Option ρ := iCode f48G tab f48B N c p σ K
noncomputable def f48c0 := codeAt (bodyOf Try.f48) []
theorem f48t0 {ρ : Type} (N : Nat) (n0 : Int) (low1 : Int) (high2 : Int) (K : KT ρ) : f48i N f48c0 .n (f48s0 n0 low1 high2) (joinK (some f48lE) K) =
  spec_l1In.Z0 N n0 low1 high2 (fun t6 => K .ret (f48s1 t6)) := by kernel_rfl
theorem f48m (N : Nat) (n0 : Int) (low1 : Int) (high2 : Int) : f48i N f48c0 .n (f48s0 n0 low1 high2) (joinK (some f48lE) (finK tab f48sig Try.f48.results.toList)) = spec_l1In.Z0 N n0 low1 high2 (fun t6 => some ((), (t6, ()))) :=
  (f48t0 N n0 low1 high2 (finK tab f48sig Try.f48.results.toList)).trans (by kernel_rfl)
theorem f48ok (h : spec_l1In.Spec) : EntryOk Try.prog 48 e48 :=
  entry_of_code (sig := f48sig) (c := f48c0) (pl := .n) (je := (some f48lE)) (B := f48B) Try.func48 (by kernel_rfl) (by kernel_rfl) (by kernel_rfl) tabOk f48GOk (by kernel_rfl) (by kernel_rfl) (by kernel_rfl) (by kernel_rfl) fun X hb hp => by
    obtain ⟨n0, low1, high2, _⟩ := X
    obtain ⟨N, h⟩ := h n0 low1 high2
    exact ⟨N, (f48m N n0 low1 high2).trans (h N (Nat.le_refl N))⟩
theorem e48ok : EntryOk Try.prog 48 e48 := f48ok spec_l1In.ok
end Go.Fw
set_option linter.unusedVariables false
set_option linter.unusedSimpArgs false
set_option maxRecDepth 100000
namespace Go.Fw
open Go.Proofs
/-! ### loop.example/g03115/spec.l1Less -/
noncomputable def f79sig : Sig := ⟨[⟨.sl 3 (.int .i64), false, false⟩, ⟨.sl 3 (.int .i64), false, false⟩], [⟨.bool, false, false⟩]⟩
noncomputable def e79 : Entry := ⟨f79sig, none, fun X => ((), ((spec_l1Less.g X.1 X.2.1), ()))⟩
noncomputable def f79G : Nat → Option Entry := (fun _ => none)
theorem f79GOk : GOk Try.prog f79G := GOk.nil
noncomputable def f79lE : Clean := ⟨[], [], [], [], []⟩
noncomputable def f79s0 (a0 : List Int) (b1 : List Int) : St := initSt f79sig.ps (a0, (b1, ()))
noncomputable def f79s1 (a0 : List Int) (b1 : List Int) : St := stOf [(0, .c (.sn 3 (.int .i64) a0 none)), (1, .c (.sn 3 (.int .i64) b1 none))] [] []
noncomputable def f79l1 : Clean := ⟨[0, 1], [], [], [], []⟩
noncomputable def f79s2 (a0 : List Int) (b1 : List Int) (i5 : Int) : St := stOf [(0, .c (.sn 3 (.int .i64) a0 none)), (1, .c (.sn 3 (.int .i64) b1 none)), (5, .c (.int .i64 i5))] [] []
noncomputable def f79l2 : Clean := ⟨[0, 1, 5], [], [], [], []⟩
noncomputable def f79s3 (t4 : Bool) : St := stOf [(4, .c (.bool t4))] [] []
noncomputable def f79l3 : Clean := ⟨[4], [], [], [], []⟩
noncomputable def f79B : Nat → Option Clean := lookL [(0, f79l1), (1000000, f79l3)]
noncomputable abbrev f79i {ρ : Type} (N : Nat) (c : Code) (p : Plan) (σ : St) (K : KT ρ) : Option ρ := iCode f79G tab f79B N c p σ K
noncomputable def f79c1 := codeAt (bodyOf Try.f79) [0]
theorem f79t1 {ρ : Type} (N : Nat) (a0 : List Int) (b1 : List Int) (K : KT ρ) : f79i N f79c1 .n (f79s0 a0 b1) (joinK (some f79l1) K) =
  spec_l1Less.Z1 N a0 b1 (fun a0 b1 => K .nrm (f79s1 a0 b1)) := by kernel_rfl
noncomputable def f79c4 := codeAt (bodyOf Try.f79) [1,0,0]
theorem f79t4 {ρ : Type} (N : Nat) (a0 : List Int) (b1 : List Int) (K : KT ρ) : f79i N f79c4 .n (f79s1 a0 b1) (joinK (some f79l2) K) =
  spec_l1Less.Z4 N a0 b1 (fun a0 b1 i5 => K .nrm (f79s2 a0 b1 i5)) := by kernel_rfl
noncomputable def f79c7 := codeAt (bodyOf Try.f79) [1,0,1,0,0]
theorem f79t7 {ρ : Type} (N : Nat) (a0 : List Int) (b1 : List Int) (i5 : Int) (K : KT ρ) : f79i N f79c7 .n (f79s2 a0 b1 i5) (joinK (some f79l2) K) =
  spec_l1Less.Z7 N a0 b1 i5 (fun a0 b1 i5 => K .nrm (f79s2 a0 b1 i5)) (fun a0 b1 => K (.exit 0) (f79s1 a0 b1)) (fun t4 => K .ret (f79s3 t4)) := by kernel_rfl
noncomputable def f79c6 := codeAt (bodyOf Try.f79) [1,0,1,0]
noncomputable def f79p6 : Plan := .mk none (some f79l2) .n .n
noncomputable abbrev f79w6 {ρ : Type} (N : Nat) (M : Nat) (σ : St) (K : KT ρ) : Option ρ := loopC (fun σ K => f79i N f79c7 .n σ K) f79l2 M σ K
theorem f79t6L {ρ : Type} (N : Nat) (K : KT ρ) : ∀ (M : Nat) (a0 : List Int) (b1 : List Int) (i5 : Int), f79w6 N M (f79s2 a0 b1 i5) K =
  spec_l1Less.Z6L N (fun a0 b1 => K (.exit 0) (f79s1 a0 b1)) (fun t4 => K .ret (f79s3 t4)) M a0 b1 i5
  | 0, _, _, _ => rfl
  | M + 1, a0, b1, i5 => viaRound (fun k => spec_l1Less.Z7 N a0 b1 i5 k (fun a0 b1 => K (.exit 0) (f79s1 a0 b1)) (fun t4 => K .ret (f79s3 t4))) (f79t7 N a0 b1 i5 (seqK (fun σ => f79w6 N M σ K) K)) (funext fun a0 => funext fun b1 => funext fun i5 => f79t6L N K M a0 b1 i5) (by kernel_rfl) (by kernel_rfl)
theorem f79t6 {ρ : Type} (N : Nat) (a0 : List Int) (b1 : List Int) (i5 : Int) (K : KT ρ) : f79i N f79c6 f79p6 (f79s2 a0 b1 i5) (joinK (some f79l1) K) =
  spec_l1Less.Z6 N a0 b1 i5 (fun a0 b1 => K (.exit 0) (f79s1 a0 b1)) (fun t4 => K .ret (f79s3 t4)) :=
  viaLoop (by kernel_rfl) (by kernel_rfl) (σ' := f79s2 a0 b1 i5) (by kernel_rfl) (f79t6L N (joinK (some f79l1) K) N a0 b1 i5) (by kernel_rfl)
noncomputable def f79c5 := codeAt (bodyOf Try.f79) [1,0,1]
noncomputable def f79p5 : Plan := .mk (some f79l1) none f79p6 .n
theorem f79t5 {ρ : Type} (N : Nat) (a0 : List Int) (b1 : List Int) (i5 : Int) (K : KT ρ) : f79i N f79c5 f79p5 (f79s2 a0 b1 i5) (joinK (some f79l1) K) =
  spec_l1Less.Z5 N a0 b1 i5 (fun a0 b1 => K .nrm (f79s1 a0 b1)) (fun t4 => K .ret (f79s3 t4)) :=
  viaBlock (by kernel_rfl) (by kernel_rfl) (f79t6 N a0 b1 i5 (blockK 0 (joinK (some f79l1) K))) (by kernel_rfl)
noncomputable def f79c3 := codeAt (bodyOf Try.f79) [1,0]
noncomputable def f79p3 : Plan := .mk (some f79l2) none .n f79p5
theorem f79t3 {ρ : Type} (N : Nat) (a0 : List Int) (b1 : List Int) (K : KT ρ) : f79i N f79c3 f79p3 (f79s1 a0 b1) (joinK (some f79l1) K) =
  spec_l1Less.Z3 N a0 b1 (fun a0 b1 => K .nrm (f79s1 a0 b1)) (fun t4 => K .ret (f79s3 t4)) :=
  viaSeq (fun k => spec_l1Less.Z4 N a0 b1 k) (by kernel_rfl) (by kernel_rfl) (f79t4 N a0 b1 (seqK (fun σ => f79i N f79c5 f79p5 σ (joinK (some f79l1) K)) (joinK (some f79l1) K))) (funext fun a0 => funext fun b1 => funext fun i5 => f79t5 N a0 b1 i5 K) (by kernel_rfl) (by kernel_rfl)
noncomputable def f79c8 := codeAt (bodyOf Try.f79) [1,1]
theorem f79t8 {ρ : Type} (N : Nat) (a0 : List Int) (b1 : List Int) (K : KT ρ) : f79i N f79c8 .n (f79s1 a0 b1) (joinK (some f79lE) K) =
  spec_l1Less.Z8 N a0 b1 (fun t4 => K .ret (f79s3 t4)) := by kernel_rfl
noncomputable def f79c2 := codeAt (bodyOf Try.f79) [1]
noncomputable def f79p2 : Plan := .mk (some f79l1) none f79p3 .n
theorem f79t2 {ρ : Type} (N : Nat) (a0 : List Int) (b1 : List Int) (K : KT ρ) : f79i N f79c2 f79p2 (f79s1 a0 b1) (joinK (some f79lE) K) =
  spec_l1Less.Z2 N a0 b1 (fun t4 => K .ret (f79s3 t4)) :=
  viaSeq (fun k => spec_l1Less.Z3 N a0 b1 k (fun t4 => K .ret (f79s3 t4))) (by kernel_rfl) (by kernel_rfl) (f79t3 N a0 b1 (seqK (fun σ => f79i N f79c8 .n σ (joinK (some f79lE) K)) (joinK (some f79lE) K))) (funext fun a0 => funext fun b1 => f79t8 N a0 b1 K) (by kernel_rfl) (by kernel_rfl)
noncomputable def f79c0 := codeAt (bodyOf Try.f79) []
noncomputable def f79p0 : Plan := .mk (some f79l1) none .n f79p2
theorem f79t0 {ρ : Type} (N : Nat) (a0 : List Int) (b1 : List Int) (K : KT ρ) : f79i N f79c0 f79p0 (f79s0 a0 b1) (joinK (some f79lE) K) =
  spec_l1Less.Z0 N a0 b1 (fun t4 => K .ret (f79s3 t4)) :=
  viaSeq (fun k => spec_l1Less.Z1 N a0 b1 k) (by kernel_rfl) (by kernel_rfl) (f79t1 N a0 b1 (seqK (fun σ => f79i N f79c2 f79p2 σ (joinK (some f79lE) K)) (joinK (some f79lE) K))) (funext fun a0 => funext fun b1 => f79t2 N a0 b1 K) (by kernel_rfl) (by kernel_rfl)
theorem f79m (N : Nat) (a0 : List Int) (b1 : List Int) : f79i N f79c0 f79p0 (f79s0 a0 b1) (joinK (some f79lE) (finK tab f79sig Try.f79.results.toList)) = spec_l1Less.Z0 N a0 b1 (fun t4 => some ((), (t4, ()))) :=
  (f79t0 N a0 b1 (finK tab f79sig Try.f79.results.toList)).trans (by kernel_rfl)
theorem f79ok (h : spec_l1Less.Spec) : EntryOk Try.prog 79 e79 :=
  entry_of_code (sig := f79sig) (c := f79c0) (pl := f79p0) (je := (some f79lE)) (B := f79B) Try.func79 (by kernel_rfl) (by kernel_rfl) (by kernel_rfl) tabOk f79GOk (by kernel_rfl) (by kernel_rfl) (by kernel_rfl) (by kernel_rfl) fun X hb hp => by
    obtain ⟨a0, b1, _⟩ := X
    obtain ⟨N, h⟩ := h a0 b1 hb.1 hb.2.1
    exact ⟨N, (f79m N a0 b1).trans (h N (Nat.le_refl N))⟩
theorem e79ok : EntryOk Try.prog 79 e79 := f79ok spec_l1Less.ok
end Go.Fw
set_option linter.unusedVariables false
set_option linter.unusedSimpArgs false
set_option maxRecDepth 100000
namespace Go.Fw
open Go.Proofs
/-! ### loop.example/g03115/spec.l2Right -/
noncomputable def f54sig : Sig := ⟨[⟨.pair (.int .i64) (.sl 59 (.pair (.sl 3 (.int .i64)) (.int .i64))), true, false⟩], [⟨.bool, false, false⟩]⟩
noncomputable def e54 : Entry := ⟨f54sig, none, fun X => ((), ((spec_l2Right.g X.1), ()))⟩
noncomputable def f54G : Nat → Option Entry := addG (addG (fun _ => none) 48 e48) 79 e79
theorem f54GOk : GOk Try.prog f54G := ((GOk.nil).add e48ok (by kernel_rfl)).add e79ok (by kernel_rfl)
noncomputable def f54lE : Clean := ⟨[], [], [], [], []⟩
noncomputable def f54s0 (f0 : Int × List (List Int × Int)) : St := initSt f54sig.ps (f0, ())
noncomputable def f54s1 (f1_0 : Int) (f1_1 : List (List Int × Int)) : St := stOf [(1, .c (.box 1 0))] [(1, (25, [.int .i64 f1_0, .sn 59 (.pair (.sl 3 (.int .i64)) (.int .i64)) f1_1 none]))] []
noncomputable def f54l1 : Clean := ⟨[1], [1], [], [], []⟩
noncomputable def f54s2 (k3 : Int) (f1_0 : Int) (f1_1 : List (List Int × Int)) : St := stOf [(1, .c (.box 1 0)), (3, .c (.int .i64 k3))] [(1, (25, [.int .i64 f1_0, .sn 59 (.pair (.sl 3 (.int .i64)) (.int .i64)) f1_1 none]))] []
noncomputable def f54l2 : Clean := ⟨[1, 3], [1], [], [], []⟩
noncomputable def f54s3 (k3 : Int) (f1_0 : Int) (f1_1 : List (List Int × Int)) (t4_0 : List Int) (t4_1 : Int) : St := stOf [(1, .c (.box 1 0)), (3, .c (.int .i64 k3)), (4, .c (.box 4 0))] [(1, (25, [.int .i64 f1_0, .sn 59 (.pair (.sl 3 (.int .i64)) (.int .i64)) f1_1 none])), (4, (59, [.sn 3 (.int .i64) t4_0 none, .int .i64 t4_1]))] []
noncomputable def f54l3 : Clean := ⟨[1, 3, 4], [1, 4], [], [], []⟩
noncomputable def f54s4 (k3 : Int) (i5 : Int) (f1_0 : Int) (f1_1 : List (List Int × Int)) (t4_0 : List Int) (t4_1 : Int) : St := stOf [(1, .c (.box 1 0)), (3, .c (.int .i64 k3)), (4, .c (.box 4 0)), (5, .c (.int .i64 i5))] [(1, (25, [.int .i64 f1_0, .sn 59 (.pair (.sl 3 (.int .i64)) (.int .i64)) f1_1 none])), (4, (59, [.sn 3 (.int .i64) t4_0 none, .int .i64 t4_1]))] []
noncomputable def f54l4 : Clean := ⟨[1, 3, 4, 5], [1, 4], [], [], []⟩
noncomputable def f54s5  : St := stOf [] [] []
noncomputable def f54l5 : Clean := ⟨[], [], [], [], []⟩
noncomputable def f54s6 (t2 : Bool) : St := stOf [(2, .c (.bool t2))] [] []
noncomputable def f54l6 : Clean := ⟨[2], [], [], [], []⟩
noncomputable def f54B : Nat → Option Clean := lookL [(2, f54l2), (1, f54l2), (0, f54l5), (1000000, f54l6)]
noncomputable abbrev f54i {ρ : Type} (N : Nat) (c : Code) (p : Plan) (σ : St) (K : KT ρ) : Option ρ := iCode f54G tab f54B N c p σ K
noncomputable def f54c1 := codeAt (bodyOf Try.f54) [0]
theorem f54t1 {ρ : Type} (N : Nat) (f0 : Int × List (List Int × Int)) (K : KT ρ) : f54i N f54c1 .n (f54s0 f0) (joinK (some f54l1) K) =
  spec_l2Right.Z1 N f0 (fun f1_0 f1_1 => K .nrm (f54s1 f1_0 f1_1)) := by kernel_rfl
noncomputable def f54c3 := codeAt (bodyOf Try.f54) [1,0]
theorem f54t3 {ρ : Type} (N : Nat) (f1_0 : Int) (f1_1 : List (List Int × Int)) (K : KT ρ) : f54i N f54c3 .n (f54s1 f1_0 f1_1) (joinK (some f54l1) K) =
  spec_l2Right.Z3 N f1_0 f1_1 (fun f1_0 f1_1 => K .nrm (f54s1 f1_0 f1_1)) (fun t2 => K .ret (f54s6 t2)) := by kernel_rfl
noncomputable def f54c6 := codeAt (bodyOf Try.f54) [1,1,0,0]
theorem f54t6 {ρ : Type} (N : Nat) (f1_0 : Int) (f1_1 : List (List Int × Int)) (K : KT ρ) : f54i N f54c6 .n (f54s1 f1_0 f1_1) (joinK (some f54l2) K) =
  spec_l2Right.Z6 N f1_0 f1_1 (fun k3 f1_0 f1_1 => K .nrm (f54s2 k3 f1_0 f1_1)) := by kernel_rfl
noncomputable def f54c10 := codeAt (bodyOf Try.f54) [1,1,0,1,0,0,0]
theorem f54t10 {ρ : Type} (N : Nat) (k3 : Int) (f1_0 : Int) (f1_1 : List (List Int × Int)) (K : KT ρ) : f54i N f54c10 .n (f54s2 k3 f1_0 f1_1) (joinK (some f54l2) K) =
  spec_l2Right.Z10 N k3 f1_0 f1_1 (fun k3 f1_0 f1_1 => K .nrm (f54s2 k3 f1_0 f1_1)) (K (.exit 0) f54s5) := by kernel_rfl
noncomputable def f54c14 := codeAt (bodyOf Try.f54) [1,1,0,1,0,0,1,0,0,0]
theorem f54t14 {ρ : Type} (N : Nat) (k3 : Int) (f1_0 : Int) (f1_1 : List (List Int × Int)) (K : KT ρ) : f54i N f54c14 .n (f54s2 k3 f1_0 f1_1) (joinK (some f54l3) K) =
  spec_l2Right.Z14 N k3 f1_0 f1_1 (fun k3 f1_0 f1_1 t4_0 t4_1 => K .nrm (f54s3 k3 f1_0 f1_1 t4_0 t4_1)) := by kernel_rfl
noncomputable def f54c16 := codeAt (bodyOf Try.f54) [1,1,0,1,0,0,1,0,0,1,0]
theorem f54t16 {ρ : Type} (N : Nat) (k3 : Int) (f1_0 : Int) (f1_1 : List (List Int × Int)) (t4_0 : List Int) (t4_1 : Int) (K : KT ρ) : f54i N f54c16 .n (f54s3 k3 f1_0 f1_1 t4_0 t4_1) (joinK (some f54l3) K) =
  spec_l2Right.Z16 N k3 f1_0 f1_1 t4_0 t4_1 (fun k3 f1_0 f1_1 t4_0 t4_1 => K .nrm (f54s3 k3 f1_0 f1_1 t4_0 t4_1)) (fun t2 => K .ret (f54s6 t2)) := by kernel_rfl
noncomputable def f54c18 := codeAt (bodyOf Try.f54) [1,1,0,1,0,0,1,0,0,1,1,0]
theorem f54t18 {ρ : Type} (N : Nat) (k3 : Int) (f1_0 : Int) (f1_1 : List (List Int × Int)) (t4_0 : List Int) (t4_1 : Int) (K : KT ρ) : f54i N f54c18 .n (f54s3 k3 f1_0 f1_1 t4_0 t4_1) (joinK (some f54l4) K) =
  spec_l2Right.Z18 N k3 f1_0 f1_1 t4_0 t4_1 (fun k3 i5 f1_0 f1_1 t4_0 t4_1 => K .nrm (f54s4 k3 i5 f1_0 f1_1 t4_0 t4_1)) := by kernel_rfl
noncomputable def f54c21 := codeAt (bodyOf Try.f54) [1,1,0,1,0,0,1,0,0,1,1,1,0,0]
theorem f54t21 {ρ : Type} (N : Nat) (k3 : Int) (i5 : Int) (f1_0 : Int) (f1_1 : List (List Int × Int)) (t4_0 : List Int) (t4_1 : Int) (K : KT ρ) : f54i N f54c21 .n (f54s4 k3 i5 f1_0 f1_1 t4_0 t4_1) (joinK (some f54l4) K) =
  spec_l2Right.Z21 N k3 i5 f1_0 f1_1 t4_0 t4_1 (fun k3 i5 f1_0 f1_1 t4_0 t4_1 => K .nrm (f54s4 k3 i5 f1_0 f1_1 t4_0 t4_1)) (fun k3 f1_0 f1_1 => K (.exit 2) (f54s2 k3 f1_0 f1_1)) (fun t2 => K .ret (f54s6 t2)) := by kernel_rfl
noncomputable def f54c20 := codeAt (bodyOf Try.f54) [1,1,0,1,0,0,1,0,0,1,1,1,0]
noncomputable def f54p20 : Plan := .mk none (some f54l4) .n .n
noncomputable abbrev f54w20 {ρ : Type} (N : Nat) (M : Nat) (σ : St) (K : KT ρ) : Option ρ := loopC (fun σ K => f54i N f54c21 .n σ K) f54l4 M σ K
theorem f54t20L {ρ : Type} (N : Nat) (K : KT ρ) : ∀ (M : Nat) (k3 : Int) (i5 : Int) (f1_0 : Int) (f1_1 : List (List Int × Int)) (t4_0 : List Int) (t4_1 : Int), f54w20 N M (f54s4 k3 i5 f1_0 f1_1 t4_0 t4_1) K =
  spec_l2Right.Z20L N (fun k3 f1_0 f1_1 => K (.exit 2) (f54s2 k3 f1_0 f1_1)) (fun t2 => K .ret (f54s6 t2)) M k3 i5 f1_0 f1_1 t4_0 t4_1
  | 0, _, _, _, _, _, _ => rfl
  | M + 1, k3, i5, f1_0, f1_1, t4_0, t4_1 => viaRound (fun k => spec_l2Right.Z21 N k3 i5 f1_0 f1_1 t4_0 t4_1 k (fun k3 f1_0 f1_1 => K (.exit 2) (f54s2 k3 f1_0 f1_1)) (fun t2 => K .ret (f54s6 t2))) (f54t21 N k3 i5 f1_0 f1_1 t4_0 t4_1 (seqK (fun σ => f54w20 N M σ K) K)) (funext fun k3 => funext fun i5 => funext fun f1_0 => funext fun f1_1 => funext fun t4_0 => funext fun t4_1 => f54t20L N K M k3 i5 f1_0 f1_1 t4_0 t4_1) (by kernel_rfl) (by kernel_rfl)
theorem f54t20 {ρ : Type} (N : Nat) (k3 : Int) (i5 : Int) (f1_0 : Int) (f1_1 : List (List Int × Int)) (t4_0 : List Int) (t4_1 : Int) (K : KT ρ) : f54i N f54c20 f54p20 (f54s4 k3 i5 f1_0 f1_1 t4_0 t4_1) (joinK (some f54l2) K) =
  spec_l2Right.Z20 N k3 i5 f1_0 f1_1 t4_0 t4_1 (fun k3 f1_0 f1_1 => K (.exit 2) (f54s2 k3 f1_0 f1_1)) (fun t2 => K .ret (f54s6 t2)) :=
  viaLoop (by kernel_rfl) (by kernel_rfl) (σ' := f54s4 k3 i5 f1_0 f1_1 t4_0 t4_1) (by kernel_rfl) (f54t20L N (joinK (some f54l2) K) N k3 i5 f1_0 f1_1 t4_0 t4_1) (by kernel_rfl)
noncomputable def f54c19 := codeAt (bodyOf Try.f54) [1,1,0,1,0,0,1,0,0,1,1,1]
noncomputable def f54p19 : Plan := .mk (some f54l2) none f54p20 .n
theorem f54t19 {ρ : Type} (N : Nat) (k3 : Int) (i5 : Int) (f1_0 : Int) (f1_1 : List (List Int × Int)) (t4_0 : List Int) (t4_1 : Int) (K : KT ρ) : f54i N f54c19 f54p19 (f54s4 k3 i5 f1_0 f1_1 t4_0 t4_1) (joinK (some f54l2) K) =
  spec_l2Right.Z19 N k3 i5 f1_0 f1_1 t4_0 t4_1 (fun k3 f1_0 f1_1 => K .nrm (f54s2 k3 f1_0 f1_1)) (fun t2 => K .ret (f54s6 t2)) :=
  viaBlock (by kernel_rfl) (by kernel_rfl) (f54t20 N k3 i5 f1_0 f1_1 t4_0 t4_1 (blockK 2 (joinK (some f54l2) K))) (by kernel_rfl)
noncomputable def f54c17 := codeAt (bodyOf Try.f54) [1,1,0,1,0,0,1,0,0,1,1]
noncomputable def f54p17 : Plan := .mk (some f54l4) none .n f54p19
theorem f54t17 {ρ : Type} (N : Nat) (k3 : Int) (f1_0 : Int) (f1_1 : List (List Int × Int)) (t4_0 : List Int) (t4_1 : Int) (K : KT ρ) : f54i N f54c17 f54p17 (f54s3 k3 f1_0 f1_1 t4_0 t4_1) (joinK (some f54l2) K) =
  spec_l2Right.Z17 N k3 f1_0 f1_1 t4_0 t4_1 (fun k3 f1_0 f1_1 => K .nrm (f54s2 k3 f1_0 f1_1)) (fun t2 => K .ret (f54s6 t2)) :=
  viaSeq (fun k => spec_l2Right.Z18 N k3 f1_0 f1_1 t4_0 t4_1 k) (by kernel_rfl) (by kernel_rfl) (f54t18 N k3 f1_0 f1_1 t4_0 t4_1 (seqK (fun σ => f54i N f54c19 f54p19 σ (joinK (some f54l2) K)) (joinK (some f54l2) K))) (funext fun k3 => funext fun i5 => funext fun f1_0 => funext fun f1_1 => funext fun t4_0 => funext fun t4_1 => f54t19 N k3 i5 f1_0 f1_1 t4_0 t4_1 K) (by kernel_rfl) (by kernel_rfl)
noncomputable def f54c15 := codeAt (bodyOf Try.f54) [1,1,0,1,0,0,1,0,0,1]
noncomputable def f54p15 : Plan := .mk (some f54l3) none .n f54p17
theorem f54t15 {ρ : Type} (N : Nat) (k3 : Int) (f1_0 : Int) (f1_1 : List (List Int × Int)) (t4_0 : List Int) (t4_1 : Int) (K : KT ρ) : f54i N f54c15 f54p15 (f54s3 k3 f1_0 f1_1 t4_0 t4_1) (joinK (some f54l2) K) =
  spec_l2Right.Z15 N k3 f1_0 f1_1 t4_0 t4_1 (fun k3 f1_0 f1_1 => K .nrm (f54s2 k3 f1_0 f1_1)) (fun t2 => K .ret (f54s6 t2)) :=
  viaSeq (fun k => spec_l2Right.Z16 N k3 f1_0 f1_1 t4_0 t4_1 k (fun t2 => K .ret (f54s6 t2))) (by kernel_rfl) (by kernel_rfl) (f54t16 N k3 f1_0 f1_1 t4_0 t4_1 (seqK (fun σ => f54i N f54c17 f54p17 σ (joinK (some f54l2) K)) (joinK (some f54l2) K))) (funext fun k3 => funext fun f1_0 => funext fun f1_1 => funext fun t4_0 => funext fun t4_1 => f54t17 N k3 f1_0 f1_1 t4_0 t4_1 K) (by kernel_rfl) (by kernel_rfl)
noncomputable def f54c13 := codeAt (bodyOf Try.f54) [1,1,0,1,0,0,1,0,0]
noncomputable def f54p13 : Plan := .mk (some f54l3) none .n f54p15
theorem f54t13 {ρ : Type} (N : Nat) (k3 : Int) (f1_0 : Int) (f1_1 : List (List Int × Int)) (K : KT ρ) : f54i N f54c13 f54p13 (f54s2 k3 f1_0 f1_1) (joinK (some f54l2) K) =
  spec_l2Right.Z13 N k3 f1_0 f1_1 (fun k3 f1_0 f1_1 => K .nrm (f54s2 k3 f1_0 f1_1)) (fun t2 => K .ret (f54s6 t2)) :=
  viaSeq (fun k => spec_l2Right.Z14 N k3 f1_0 f1_1 k) (by kernel_rfl) (by kernel_rfl) (f54t14 N k3 f1_0 f1_1 (seqK (fun σ => f54i N f54c15 f54p15 σ (joinK (some f54l2) K)) (joinK (some f54l2) K))) (funext fun k3 => funext fun f1_0 => funext fun f1_1 => funext fun t4_0 => funext fun t4_1 => f54t15 N k3 f1_0 f1_1 t4_0 t4_1 K) (by kernel_rfl) (by kernel_rfl)
noncomputable def f54c12 := codeAt (bodyOf Try.f54) [1,1,0,1,0,0,1,0]
noncomputable def f54p12 : Plan := .mk (some f54l2) none f54p13 .n
theorem f54t12 {ρ : Type} (N : Nat) (k3 : Int) (f1_0 : Int) (f1_1 : List (List Int × Int)) (K : KT ρ) : f54i N f54c12 f54p12 (f54s2 k3 f1_0 f1_1) (joinK (some f54l2) K) =
  spec_l2Right.Z12 N k3 f1_0 f1_1 (fun k3 f1_0 f1_1 => K .nrm (f54s2 k3 f1_0 f1_1)) (fun t2 => K .ret (f54s6 t2)) :=
  viaBlock (by kernel_rfl) (by kernel_rfl) (f54t13 N k3 f1_0 f1_1 (blockK 1 (joinK (some f54l2) K))) (by kernel_rfl)
noncomputable def f54c22 := codeAt (bodyOf Try.f54) [1,1,0,1,0,0,1,1]
theorem f54t22 {ρ : Type} (N : Nat) (k3 : Int) (f1_0 : Int) (f1_1 : List (List Int × Int)) (K : KT ρ) : f54i N f54c22 .n (f54s2 k3 f1_0 f1_1) (joinK (some f54l2) K) =
  spec_l2Right.Z22 N k3 f1_0 f1_1 (fun k3 f1_0 f1_1 => K .nrm (f54s2 k3 f1_0 f1_1)) := by kernel_rfl
noncomputable def f54c11 := codeAt (bodyOf Try.f54) [1,1,0,1,0,0,1]
noncomputable def f54p11 : Plan := .mk (some f54l2) none f54p12 .n
theorem f54t11 {ρ : Type} (N : Nat) (k3 : Int) (f1_0 : Int) (f1_1 : List (List Int × Int)) (K : KT ρ) : f54i N f54c11 f54p11 (f54s2 k3 f1_0 f1_1) (joinK (some f54l2) K) =
  spec_l2Right.Z11 N k3 f1_0 f1_1 (fun k3 f1_0 f1_1 => K .nrm (f54s2 k3 f1_0 f1_1)) (fun t2 => K .ret (f54s6 t2)) :=
  viaSeq (fun k => spec_l2Right.Z12 N k3 f1_0 f1_1 k (fun t2 => K .ret (f54s6 t2))) (by kernel_rfl) (by kernel_rfl) (f54t12 N k3 f1_0 f1_1 (seqK (fun σ => f54i N f54c22 .n σ (joinK (some f54l2) K)) (joinK (some f54l2) K))) (funext fun k3 => funext fun f1_0 => funext fun f1_1 => f54t22 N k3 f1_0 f1_1 K) (by kernel_rfl) (by kernel_rfl)
noncomputable def f54c9 := codeAt (bodyOf Try.f54) [1,1,0,1,0,0]
noncomputable def f54p9 : Plan := .mk (some f54l2) none .n f54p11
theorem f54t9 {ρ : Type} (N : Nat) (k3 : Int) (f1_0 : Int) (f1_1 : List (List Int × Int)) (K : KT ρ) : f54i N f54c9 f54p9 (f54s2 k3 f1_0 f1_1) (joinK (some f54l2) K) =
  spec_l2Right.Z9 N k3 f1_0 f1_1 (fun k3 f1_0 f1_1 => K .nrm (f54s2 k3 f1_0 f1_1)) (K (.exit 0) f54s5) (fun t2 => K .ret (f54s6 t2)) :=
  viaSeq (fun k => spec_l2Right.Z10 N k3 f1_0 f1_1 k (K (.exit 0) f54s5)) (by kernel_rfl) (by kernel_rfl) (f54t10 N k3 f1_0 f1_1 (seqK (fun σ => f54i N f54c11 f54p11 σ (joinK (some f54l2) K)) (joinK (some f54l2) K))) (funext fun k3 => funext fun f1_0 => funext fun f1_1 => f54t11 N k3 f1_0 f1_1 K) (by kernel_rfl) (by kernel_rfl)
noncomputable def f54c8 := codeAt (bodyOf Try.f54) [1,1,0,1,0]
noncomputable def f54p8 : Plan := .mk none (some f54l2) f54p9 .n
noncomputable abbrev f54w8 {ρ : Type} (N : Nat) (M : Nat) (σ : St) (K : KT ρ) : Option ρ := loopC (fun σ K => f54i N f54c9 f54p9 σ K) f54l2 M σ K
theorem f54t8L {ρ : Type} (N : Nat) (K : KT ρ) : ∀ (M : Nat) (k3 : Int) (f1_0 : Int) (f1_1 : List (List Int × Int)), f54w8 N M (f54s2 k3 f1_0 f1_1) K =
  spec_l2Right.Z8L N (K (.exit 0) f54s5) (fun t2 => K .ret (f54s6 t2)) M k3 f1_0 f1_1
  | 0, _, _, _ => rfl
  | M + 1, k3, f1_0, f1_1 => viaRound (fun k => spec_l2Right.Z9 N k3 f1_0 f1_1 k (K (.exit 0) f54s5) (fun t2 => K .ret (f54s6 t2))) (f54t9 N k3 f1_0 f1_1 (seqK (fun σ => f54w8 N M σ K) K)) (funext fun k3 => funext fun f1_0 => funext fun f1_1 => f54t8L N K M k3 f1_0 f1_1) (by kernel_rfl) (by kernel_rfl)
theorem f54t8 {ρ : Type} (N : Nat) (k3 : Int) (f1_0 : Int) (f1_1 : List (List Int × Int)) (K : KT ρ) : f54i N f54c8 f54p8 (f54s2 k3 f1_0 f1_1) (joinK (some f54l5) K) =
  spec_l2Right.Z8 N k3 f1_0 f1_1 (K (.exit 0) f54s5) (fun t2 => K .ret (f54s6 t2)) :=
  viaLoop (by kernel_rfl) (by kernel_rfl) (σ' := f54s2 k3 f1_0 f1_1) (by kernel_rfl) (f54t8L N (joinK (some f54l5) K) N k3 f1_0 f1_1) (by kernel_rfl)
noncomputable def f54c7 := codeAt (bodyOf Try.f54) [1,1,0,1]
noncomputable def f54p7 : Plan := .mk (some f54l5) none f54p8 .n
theorem f54t7 {ρ : Type} (N : Nat) (k3 : Int) (f1_0 : Int) (f1_1 : List (List Int × Int)) (K : KT ρ) : f54i N f54c7 f54p7 (f54s2 k3 f1_0 f1_1) (joinK (some f54l5) K) =
  spec_l2Right.Z7 N k3 f1_0 f1_1 (K .nrm f54s5) (fun t2 => K .ret (f54s6 t2)) :=
  viaBlock (by kernel_rfl) (by kernel_rfl) (f54t8 N k3 f1_0 f1_1 (blockK 0 (joinK (some f54l5) K))) (by kernel_rfl)
noncomputable def f54c5 := codeAt (bodyOf Try.f54) [1,1,0]
noncomputable def f54p5 : Plan := .mk (some f54l2) none .n f54p7
theorem f54t5 {ρ : Type} (N : Nat) (f1_0 : Int) (f1_1 : List (List Int × Int)) (K : KT ρ) : f54i N f54c5 f54p5 (f54s1 f1_0 f1_1) (joinK (some f54l5) K) =
  spec_l2Right.Z5 N f1_0 f1_1 (K .nrm f54s5) (fun t2 => K .ret (f54s6 t2)) :=
  viaSeq (fun k => spec_l2Right.Z6 N f1_0 f1_1 k) (by kernel_rfl) (by kernel_rfl) (f54t6 N f1_0 f1_1 (seqK (fun σ => f54i N f54c7 f54p7 σ (joinK (some f54l5) K)) (joinK (some f54l5) K))) (funext fun k3 => funext fun f1_0 => funext fun f1_1 => f54t7 N k3 f1_0 f1_1 K) (by kernel_rfl) (by kernel_rfl)
noncomputable def f54c23 := codeAt (bodyOf Try.f54) [1,1,1]
theorem f54t23 {ρ : Type} (N : Nat)  (K : KT ρ) : f54i N f54c23 .n f54s5 (joinK (some f54lE) K) =
  spec_l2Right.Z23 N (fun t2 => K .ret (f54s6 t2)) := by kernel_rfl
noncomputable def f54c4 := codeAt (bodyOf Try.f54) [1,1]
noncomputable def f54p4 : Plan := .mk (some f54l5) none f54p5 .n
theorem f54t4 {ρ : Type} (N : Nat) (f1_0 : Int) (f1_1 : List (List Int × Int)) (K : KT ρ) : f54i N f54c4 f54p4 (f54s1 f1_0 f1_1) (joinK (some f54lE) K) =
  spec_l2Right.Z4 N f1_0 f1_1 (fun t2 => K .ret (f54s6 t2)) :=
  viaSeq (fun k => spec_l2Right.Z5 N f1_0 f1_1 k (fun t2 => K .ret (f54s6 t2))) (by kernel_rfl) (by kernel_rfl) (f54t5 N f1_0 f1_1 (seqK (fun σ => f54i N f54c23 .n σ (joinK (some f54lE) K)) (joinK (some f54lE) K))) (f54t23 N K) (by kernel_rfl) (by kernel_rfl)
noncomputable def f54c2 := codeAt (bodyOf Try.f54) [1]
noncomputable def f54p2 : Plan := .mk (some f54l1) none .n f54p4
theorem f54t2 {ρ : Type} (N : Nat) (f1_0 : Int) (f1_1 : List (List Int × Int)) (K : KT ρ) : f54i N f54c2 f54p2 (f54s1 f1_0 f1_1) (joinK (some f54lE) K) =
  spec_l2Right.Z2 N f1_0 f1_1 (fun t2 => K .ret (f54s6 t2)) :=
  viaSeq (fun k => spec_l2Right.Z3 N f1_0 f1_1 k (fun t2 => K .ret (f54s6 t2))) (by kernel_rfl) (by kernel_rfl) (f54t3 N f1_0 f1_1 (seqK (fun σ => f54i N f54c4 f54p4 σ (joinK (some f54lE) K)) (joinK (some f54lE) K))) (funext fun f1_0 => funext fun f1_1 => f54t4 N f1_0 f1_1 K) (by kernel_rfl) (by kernel_rfl)
noncomputable def f54c0 := codeAt (bodyOf Try.f54) []
noncomputable def f54p0 : Plan := .mk (some f54l1) none .n f54p2
theorem f54t0 {ρ : Type} (N : Nat) (f0 : Int × List (List Int × Int)) (K : KT ρ) : f54i N f54c0 f54p0 (f54s0 f0) (joinK (some f54lE) K) =
  spec_l2Right.Z0 N f0 (fun t2 => K .ret (f54s6 t2)) :=
  viaSeq (fun k => spec_l2Right.Z1 N f0 k) (by kernel_rfl) (by kernel_rfl) (f54t1 N f0 (seqK (fun σ => f54i N f54c2 f54p2 σ (joinK (some f54lE) K)) (joinK (some f54lE) K))) (funext fun f1_0 => funext fun f1_1 => f54t2 N f1_0 f1_1 K) (by kernel_rfl) (by kernel_rfl)
theorem f54m (N : Nat) (f0 : Int × List (List Int × Int)) : f54i N f54c0 f54p0 (f54s0 f0) (joinK (some f54lE) (finK tab f54sig Try.f54.results.toList)) = spec_l2Right.Z0 N f0 (fun t2 => some ((), (t2, ()))) :=
  (f54t0 N f0 (finK tab f54sig Try.f54.results.toList)).trans (by kernel_rfl)
theorem f54ok (h : spec_l2Right.Spec) : EntryOk Try.prog 54 e54 :=
  entry_of_code (sig := f54sig) (c := f54c0) (pl := f54p0) (je := (some f54lE)) (B := f54B) Try.func54 (by kernel_rfl) (by kernel_rfl) (by kernel_rfl) tabOk f54GOk (by kernel_rfl) (by kernel_rfl) (by kernel_rfl) (by kernel_rfl) fun X hb hp => by
    obtain ⟨f0, _⟩ := X
    obtain ⟨N, h⟩ := h f0 hb.1
    exact ⟨N, (f54m N f0).trans (h N (Nat.le_refl N))⟩
theorem e54ok : EntryOk Try.prog 54 e54 := f54ok spec_l2Right.ok
end Go.Fw
set_option linter.unusedVariables false
set_option linter.unusedSimpArgs false
set_option maxRecDepth 100000
namespace Go.Fw
open Go.Proofs
/-! ### loop.example/g03115/spec.l1Ints -/
noncomputable def f53sig : Sig := ⟨[⟨.sl 3 (.int .i64), false, false⟩], [⟨.sl 3 (.int .i64), false, false⟩]⟩
noncomputable def e53 : Entry := ⟨f53sig, (some fun X => spec_l1Ints.P X.1), fun X => ((), ((spec_l1Ints.g X.1), ()))⟩
noncomputable def f53G : Nat → Option Entry := (fun _ => none)
theorem f53GOk : GOk Try.prog f53G := GOk.nil
noncomputable def f53lE : Clean := ⟨[], [], [], [], []⟩
noncomputable def f53s0 (l0 : List Int) : St := initSt f53sig.ps (l0, ())
noncomputable def f53s1 (t2 : List Int) : St := stOf [(2, .c (.own 1000128))] [] [(1000128, (⟨3, .int .i64, t2, true, false⟩ : Row))]
noncomputable def f53l1 : Clean := ⟨[2], [], [], [], [(⟨false, 2, 0⟩, 1000128)]⟩
noncomputable def f53B : Nat → Option Clean := lookL [(1000000, f53l1)]
noncomputable abbrev f53i {ρ : Type} (N : Nat) (c : Code) (p : Plan) (σ : St) (K : KT ρ) : Option ρ := iCode f53G tab f53B N c p σ K
noncomputable def f53c0 := codeAt (bodyOf Try.f53) []
theorem f53t0 {ρ : Type} (N : Nat) (l0 : List Int) (K : KT ρ) : f53i N f53c0 .n (f53s0 l0) (joinK (some f53lE) K) =
  spec_l1Ints.Z0 N l0 (fun t2 => K .ret (f53s1 t2)) := by kernel_rfl
theorem f53m (N : Nat) (l0 : List Int) : f53i N f53c0 .n (f53s0 l0) (joinK (some f53lE) (finK tab f53sig Try.f53.results.toList)) = spec_l1Ints.Z0 N l0 (fun t2 => some ((), (t2, ()))) :=
  (f53t0 N l0 (finK tab f53sig Try.f53.results.toList)).trans (by kernel_rfl)
theorem f53ok (h : spec_l1Ints.Spec) : EntryOk Try.prog 53 e53 :=
  entry_of_code (sig := f53sig) (c := f53c0) (pl := .n) (je := (some f53lE)) (B := f53B) Try.func53 (by kernel_rfl) (by kernel_rfl) (by kernel_rfl) tabOk f53GOk (by kernel_rfl) (by kernel_rfl) (by kernel_rfl) (by kernel_rfl) fun X hb hp => by
    obtain ⟨l0, _⟩ := X
    obtain ⟨N, h⟩ := h l0 hb.1 hp
    exact ⟨N, (f53m N l0).trans (h N (Nat.le_refl N))⟩
theorem e53ok : EntryOk Try.prog 53 e53 := f53ok spec_l1Ints.ok
end Go.Fw
set_option linter.unusedVariables false
set_option linter.unusedSimpArgs false
set_option maxRecDepth 100000
namespace Go.Fw
open Go.Proofs
/-! ### loop.example/g03115/spec.l2Least -/
noncomputable def f70sig : Sig := ⟨[⟨.pair (.int .i64) (.sl 59 (.pair (.sl 3 (.int .i64)) (.int .i64))), true, false⟩], [⟨.sl 3 (.int .i64), false, false⟩]⟩
noncomputable def e70 : Entry := ⟨f70sig, (some fun X => spec_l2Least.P X.1), fun X => ((), ((spec_l2Least.g X.1), ()))⟩
noncomputable def f70G : Nat → Option Entry := addG (fun _ => none) 53 e53
theorem f70GOk : GOk Try.prog f70G := (GOk.nil).add e53ok (by kernel_rfl)
noncomputable def f70lE : Clean := ⟨[], [], [], [], []⟩
noncomputable def f70s0 (f0 : Int × List (List Int × Int)) : St := initSt f70sig.ps (f0, ())
noncomputable def f70s1 (f1_0 : Int) (f1_1 : List (List Int × Int)) : St := stOf [(1, .c (.box 1 0))] [(1, (25, [.int .i64 f1_0, .sn 59 (.pair (.sl 3 (.int .i64)) (.int .i64)) f1_1 none]))] []
noncomputable def f70l1 : Clean := ⟨[1], [1], [], [], []⟩
noncomputable def f70s2 (out3 : List Int) (f1_0 : Int) (f1_1 : List (List Int × Int)) : St := stOf [(1, .c (.box 1 0)), (3, .c (.own 1000192))] [(1, (25, [.int .i64 f1_0, .sn 59 (.pair (.sl 3 (.int .i64)) (.int .i64)) f1_1 none]))] [(1000192, (⟨3, .int .i64, out3, true, false⟩ : Row))]
noncomputable def f70l2 : Clean := ⟨[1, 3], [1], [], [], [(⟨false, 3, 0⟩, 1000192)]⟩
noncomputable def f70s3 (out3 : List Int) (k4 : Int) (f1_0 : Int) (f1_1 : List (List Int × Int)) : St := stOf [(1, .c (.box 1 0)), (3, .c (.own 1000192)), (4, .c (.int .i64 k4))] [(1, (25, [.int .i64 f1_0, .sn 59 (.pair (.sl 3 (.int .i64)) (.int .i64)) f1_1 none]))] [(1000192, (⟨3, .int .i64, out3, true, false⟩ : Row))]
noncomputable def f70l3 : Clean := ⟨[1, 3, 4], [1], [], [], [(⟨false, 3, 0⟩, 1000192)]⟩
noncomputable def f70s4 (out3 : List Int) (k4 : Int) (i5 : Int) (f1_0 : Int) (f1_1 : List (List Int × Int)) : St := stOf [(1, .c (.box 1 0)), (3, .c (.own 1000192)), (4, .c (.int .i64 k4)), (5, .c (.int .i64 i5))] [(1, (25, [.int .i64 f1_0, .sn 59 (.pair (.sl 3 (.int .i64)) (.int .i64)) f1_1 none]))] [(1000192, (⟨3, .int .i64, out3, true, false⟩ : Row))]
noncomputable def f70l4 : Clean := ⟨[1, 3, 4, 5], [1], [], [], [(⟨false, 3, 0⟩, 1000192)]⟩
noncomputable def f70s5 (out3 : List Int) : St := stOf [(3, .c (.own 1000192))] [] [(1000192, (⟨3, .int .i64, out3, true, false⟩ : Row))]
noncomputable def f70l5 : Clean := ⟨[3], [], [], [], [(⟨false, 3, 0⟩, 1000192)]⟩
noncomputable def f70s6 (t2 : List Int) : St := stOf [(2, .c (.own 1000128))] [] [(1000128, (⟨3, .int .i64, t2, true, false⟩ : Row))]
noncomputable def f70l6 : Clean := ⟨[2], [], [], [], [(⟨false, 2, 0⟩, 1000128)]⟩
noncomputable def f70B : Nat → Option Clean := lookL [(2, f70l3), (1, f70l3), (0, f70l5), (1000000, f70l6)]
noncomputable abbrev f70i {ρ : Type} (N : Nat) (c : Code) (p : Plan) (σ : St) (K : KT ρ) : Option ρ := iCode f70G tab f70B N c p σ K
noncomputable def f70c1 := codeAt (bodyOf Try.f70) [0]
theorem f70t1 {ρ : Type} (N : Nat) (f0 : Int × List (List Int × Int)) (K : KT ρ) : f70i N f70c1 .n (f70s0 f0) (joinK (some f70l1) K) =
  spec_l2Least.Z1 N f0 (fun f1_0 f1_1 => K .nrm (f70s1 f1_0 f1_1)) := by kernel_rfl
noncomputable def f70c3 := codeAt (bodyOf Try.f70) [1,0]
theorem f70t3 {ρ : Type} (N : Nat) (f1_0 : Int) (f1_1 : List (List Int × Int)) (K : KT ρ) : f70i N f70c3 .n (f70s1 f1_0 f1_1) (joinK (some f70l2) K) =
  spec_l2Least.Z3 N f1_0 f1_1 (fun out3 f1_0 f1_1 => K .nrm (f70s2 out3 f1_0 f1_1)) := by kernel_rfl
noncomputable def f70c6 := codeAt (bodyOf Try.f70) [1,1,0,0]
theorem f70t6 {ρ : Type} (N : Nat) (out3 : List Int) (f1_0 : Int) (f1_1 : List (List Int × Int)) (K : KT ρ) : f70i N f70c6 .n (f70s2 out3 f1_0 f1_1) (joinK (some f70l3) K) =
  spec_l2Least.Z6 N out3 f1_0 f1_1 (fun out3 k4 f1_0 f1_1 => K .nrm (f70s3 out3 k4 f1_0 f1_1)) := by kernel_rfl
noncomputable def f70c10 := codeAt (bodyOf Try.f70) [1,1,0,1,0,0,0]
theorem f70t10 {ρ : Type} (N : Nat) (out3 : List Int) (k4 : Int) (f1_0 : Int) (f1_1 : List (List Int × Int)) (K : KT ρ) : f70i N f70c10 .n (f70s3 out3 k4 f1_0 f1_1) (joinK (some f70l3) K) =
  spec_l2Least.Z10 N out3 k4 f1_0 f1_1 (fun out3 k4 f1_0 f1_1 => K .nrm (f70s3 out3 k4 f1_0 f1_1)) (fun out3 => K (.exit 0) (f70s5 out3)) := by kernel_rfl
noncomputable def f70c14 := codeAt (bodyOf Try.f70) [1,1,0,1,0,0,1,0,0,0]
theorem f70t14 {ρ : Type} (N : Nat) (out3 : List Int) (k4 : Int) (f1_0 : Int) (f1_1 : List (List Int × Int)) (K : KT ρ) : f70i N f70c14 .n (f70s3 out3 k4 f1_0 f1_1) (joinK (some f70l4) K) =
  spec_l2Least.Z14 N out3 k4 f1_0 f1_1 (fun out3 k4 i5 f1_0 f1_1 => K .nrm (f70s4 out3 k4 i5 f1_0 f1_1)) := by kernel_rfl
noncomputable def f70c17 := codeAt (bodyOf Try.f70) [1,1,0,1,0,0,1,0,0,1,0,0]
theorem f70t17 {ρ : Type} (N : Nat) (out3 : List Int) (k4 : Int) (i5 : Int) (f1_0 : Int) (f1_1 : List (List Int × Int)) (K : KT ρ) : f70i N f70c17 .n (f70s4 out3 k4 i5 f1_0 f1_1) (joinK (some f70l4) K) =
  spec_l2Least.Z17 N out3 k4 i5 f1_0 f1_1 (fun out3 k4 i5 f1_0 f1_1 => K .nrm (f70s4 out3 k4 i5 f1_0 f1_1)) (fun out3 k4 f1_0 f1_1 => K (.exit 2) (f70s3 out3 k4 f1_0 f1_1)) := by kernel_rfl
noncomputable def f70c16 := codeAt (bodyOf Try.f70) [1,1,0,1,0,0,1,0,0,1,0]
noncomputable def f70p16 : Plan := .mk none (some f70l4) .n .n
noncomputable abbrev f70w16 {ρ : Type} (N : Nat) (M : Nat) (σ : St) (K : KT ρ) : Option ρ := loopC (fun σ K => f70i N f70c17 .n σ K) f70l4 M σ K
theorem f70t16L {ρ : Type} (N : Nat) (K : KT ρ) : ∀ (M : Nat) (out3 : List Int) (k4 : Int) (i5 : Int) (f1_0 : Int) (f1_1 : List (List Int × Int)), f70w16 N M (f70s4 out3 k4 i5 f1_0 f1_1) K =
  spec_l2Least.Z16L N (fun out3 k4 f1_0 f1_1 => K (.exit 2) (f70s3 out3 k4 f1_0 f1_1)) M out3 k4 i5 f1_0 f1_1
  | 0, _, _, _, _, _ => rfl
  | M + 1, out3, k4, i5, f1_0, f1_1 => viaRound (fun k => spec_l2Least.Z17 N out3 k4 i5 f1_0 f1_1 k (fun out3 k4 f1_0 f1_1 => K (.exit 2) (f70s3 out3 k4 f1_0 f1_1))) (f70t17 N out3 k4 i5 f1_0 f1_1 (seqK (fun σ => f70w16 N M σ K) K)) (funext fun out3 => funext fun k4 => funext fun i5 => funext fun f1_0 => funext fun f1_1 => f70t16L N K M out3 k4 i5 f1_0 f1_1) (by kernel_rfl) (by kernel_rfl)
theorem f70t16 {ρ : Type} (N : Nat) (out3 : List Int) (k4 : Int) (i5 : Int) (f1_0 : Int) (f1_1 : List (List Int × Int)) (K : KT ρ) : f70i N f70c16 f70p16 (f70s4 out3 k4 i5 f1_0 f1_1) (joinK (some f70l3) K) =
  spec_l2Least.Z16 N out3 k4 i5 f1_0 f1_1 (fun out3 k4 f1_0 f1_1 => K (.exit 2) (f70s3 out3 k4 f1_0 f1_1)) :=
  viaLoop (by kernel_rfl) (by kernel_rfl) (σ' := f70s4 out3 k4 i5 f1_0 f1_1) (by kernel_rfl) (f70t16L N (joinK (some f70l3) K) N out3 k4 i5 f1_0 f1_1) (by kernel_rfl)
noncomputable def f70c15 := codeAt (bodyOf Try.f70) [1,1,0,1,0,0,1,0,0,1]
noncomputable def f70p15 : Plan := .mk (some f70l3) none f70p16 .n
theorem f70t15 {ρ : Type} (N : Nat) (out3 : List Int) (k4 : Int) (i5 : Int) (f1_0 : Int) (f1_1 : List (List Int × Int)) (K : KT ρ) : f70i N f70c15 f70p15 (f70s4 out3 k4 i5 f1_0 f1_1) (joinK (some f70l3) K) =
  spec_l2Least.Z15 N out3 k4 i5 f1_0 f1_1 (fun out3 k4 f1_0 f1_1 => K .nrm (f70s3 out3 k4 f1_0 f1_1)) :=
  viaBlock (by kernel_rfl) (by kernel_rfl) (f70t16 N out3 k4 i5 f1_0 f1_1 (blockK 2 (joinK (some f70l3) K))) (by kernel_rfl)
noncomputable def f70c13 := codeAt (bodyOf Try.f70) [1,1,0,1,0,0,1,0,0]
noncomputable def f70p13 : Plan := .mk (some f70l4) none .n f70p15
theorem f70t13 {ρ : Type} (N : Nat) (out3 : List Int) (k4 : Int) (f1_0 : Int) (f1_1 : List (List Int × Int)) (K : KT ρ) : f70i N f70c13 f70p13 (f70s3 out3 k4 f1_0 f1_1) (joinK (some f70l3) K) =
  spec_l2Least.Z13 N out3 k4 f1_0 f1_1 (fun out3 k4 f1_0 f1_1 => K .nrm (f70s3 out3 k4 f1_0 f1_1)) :=
  viaSeq (fun k => spec_l2Least.Z14 N out3 k4 f1_0 f1_1 k) (by kernel_rfl) (by kernel_rfl) (f70t14 N out3 k4 f1_0 f1_1 (seqK (fun σ => f70i N f70c15 f70p15 σ (joinK (some f70l3) K)) (joinK (some f70l3) K))) (funext fun out3 => funext fun k4 => funext fun i5 => funext fun f1_0 => funext fun f1_1 => f70t15 N out3 k4 i5 f1_0 f1_1 K) (by kernel_rfl) (by kernel_rfl)
noncomputable def f70c12 := codeAt (bodyOf Try.f70) [1,1,0,1,0,0,1,0]
noncomputable def f70p12 : Plan := .mk (some f70l3) none f70p13 .n
theorem f70t12 {ρ : Type} (N : Nat) (out3 : List Int) (k4 : Int) (f1_0 : Int) (f1_1 : List (List Int × Int)) (K : KT ρ) : f70i N f70c12 f70p12 (f70s3 out3 k4 f1_0 f1_1) (joinK (some f70l3) K) =
  spec_l2Least.Z12 N out3 k4 f1_0 f1_1 (fun out3 k4 f1_0 f1_1 => K .nrm (f70s3 out3 k4 f1_0 f1_1)) :=
  viaBlock (by kernel_rfl) (by kernel_rfl) (f70t13 N out3 k4 f1_0 f1_1 (blockK 1 (joinK (some f70l3) K))) (by kernel_rfl)
noncomputable def f70c18 := codeAt (bodyOf Try.f70) [1,1,0,1,0,0,1,1]
theorem f70t18 {ρ : Type} (N : Nat) (out3 : List Int) (k4 : Int) (f1_0 : Int) (f1_1 : List (List Int × Int)) (K : KT ρ) : f70i N f70c18 .n (f70s3 out3 k4 f1_0 f1_1) (joinK (some f70l3) K) =
  spec_l2Least.Z18 N out3 k4 f1_0 f1_1 (fun out3 k4 f1_0 f1_1 => K .nrm (f70s3 out3 k4 f1_0 f1_1)) := by kernel_rfl
noncomputable def f70c11 := codeAt (bodyOf Try.f70) [1,1,0,1,0,0,1]
noncomputable def f70p11 : Plan := .mk (some f70l3) none f70p12 .n
theorem f70t11 {ρ : Type} (N : Nat) (out3 : List Int) (k4 : Int) (f1_0 : Int) (f1_1 : List (List Int × Int)) (K : KT ρ) : f70i N f70c11 f70p11 (f70s3 out3 k4 f1_0 f1_1) (joinK (some f70l3) K) =
  spec_l2Least.Z11 N out3 k4 f1_0 f1_1 (fun out3 k4 f1_0 f1_1 => K .nrm (f70s3 out3 k4 f1_0 f1_1)) :=
  viaSeq (fun k => spec_l2Least.Z12 N out3 k4 f1_0 f1_1 k) (by kernel_rfl) (by kernel_rfl) (f70t12 N out3 k4 f1_0 f1_1 (seqK (fun σ => f70i N f70c18 .n σ (joinK (some f70l3) K)) (joinK (some f70l3) K))) (funext fun out3 => funext fun k4 => funext fun f1_0 => funext fun f1_1 => f70t18 N out3 k4 f1_0 f1_1 K) (by kernel_rfl) (by kernel_rfl)
noncomputable def f70c9 := codeAt (bodyOf Try.f70) [1,1,0,1,0,0]
noncomputable def f70p9 : Plan := .mk (some f70l3) none .n f70p11
theorem f70t9 {ρ : Type} (N : Nat) (out3 : List Int) (k4 : Int) (f1_0 : Int) (f1_1 : List (List Int × Int)) (K : KT ρ) : f70i N f70c9 f70p9 (f70s3 out3 k4 f1_0 f1_1) (joinK (some f70l3) K) =
  spec_l2Least.Z9 N out3 k4 f1_0 f1_1 (fun out3 k4 f1_0 f1_1 => K .nrm (f70s3 out3 k4 f1_0 f1_1)) (fun out3 => K (.exit 0) (f70s5 out3)) :=
  viaSeq (fun k => spec_l2Least.Z10 N out3 k4 f1_0 f1_1 k (fun out3 => K (.exit 0) (f70s5 out3))) (by kernel_rfl) (by kernel_rfl) (f70t10 N out3 k4 f1_0 f1_1 (seqK (fun σ => f70i N f70c11 f70p11 σ (joinK (some f70l3) K)) (joinK (some f70l3) K))) (funext fun out3 => funext fun k4 => funext fun f1_0 => funext fun f1_1 => f70t11 N out3 k4 f1_0 f1_1 K) (by kernel_rfl) (by kernel_rfl)
noncomputable def f70c8 := codeAt (bodyOf Try.f70) [1,1,0,1,0]
noncomputable def f70p8 : Plan := .mk none (some f70l3) f70p9 .n
noncomputable abbrev f70w8 {ρ : Type} (N : Nat) (M : Nat) (σ : St) (K : KT ρ) : Option ρ := loopC (fun σ K => f70i N f70c9 f70p9 σ K) f70l3 M σ K
theorem f70t8L {ρ : Type} (N : Nat) (K : KT ρ) : ∀ (M : Nat) (out3 : List Int) (k4 : Int) (f1_0 : Int) (f1_1 : List (List Int × Int)), f70w8 N M (f70s3 out3 k4 f1_0 f1_1) K =
  spec_l2Least.Z8L N (fun out3 => K (.exit 0) (f70s5 out3)) M out3 k4 f1_0 f1_1
  | 0, _, _, _, _ => rfl
  | M + 1, out3, k4, f1_0, f1_1 => viaRound (fun k => spec_l2Least.Z9 N out3 k4 f1_0 f1_1 k (fun out3 => K (.exit 0) (f70s5 out3))) (f70t9 N out3 k4 f1_0 f1_1 (seqK (fun σ => f70w8 N M σ K) K)) (funext fun out3 => funext fun k4 => funext fun f1_0 => funext fun f1_1 => f70t8L N K M out3 k4 f1_0 f1_1) (by kernel_rfl) (by kernel_rfl)
theorem f70t8 {ρ : Type} (N : Nat) (out3 : List Int) (k4 : Int) (f1_0 : Int) (f1_1 : List (List Int × Int)) (K : KT ρ) : f70i N f70c8 f70p8 (f70s3 out3 k4 f1_0 f1_1) (joinK (some f70l5) K) =
  spec_l2Least.Z8 N out3 k4 f1_0 f1_1 (fun out3 => K (.exit 0) (f70s5 out3)) :=
  viaLoop (by kernel_rfl) (by kernel_rfl) (σ' := f70s3 out3 k4 f1_0 f1_1) (by kernel_rfl) (f70t8L N (joinK (some f70l5) K) N out3 k4 f1_0 f1_1) (by kernel_rfl)
noncomputable def f70c7 := codeAt (bodyOf Try.f70) [1,1,0,1]
noncomputable def f70p7 : Plan := .mk (some f70l5) none f70p8 .n
theorem f70t7 {ρ : Type} (N : Nat) (out3 : List Int) (k4 : Int) (f1_0 : Int) (f1_1 : List (List Int × Int)) (K : KT ρ) : f70i N f70c7 f70p7 (f70s3 out3 k4 f1_0 f1_1) (joinK (some f70l5) K) =
  spec_l2Least.Z7 N out3 k4 f1_0 f1_1 (fun out3 => K .nrm (f70s5 out3)) :=
  viaBlock (by kernel_rfl) (by kernel_rfl) (f70t8 N out3 k4 f1_0 f1_1 (blockK 0 (joinK (some f70l5) K))) (by kernel_rfl)
noncomputable def f70c5 := codeAt (bodyOf Try.f70) [1,1,0]
noncomputable def f70p5 : Plan := .mk (some f70l3) none .n f70p7
theorem f70t5 {ρ : Type} (N : Nat) (out3 : List Int) (f1_0 : Int) (f1_1 : List (List Int × Int)) (K : KT ρ) : f70i N f70c5 f70p5 (f70s2 out3 f1_0 f1_1) (joinK (some f70l5) K) =
  spec_l2Least.Z5 N out3 f1_0 f1_1 (fun out3 => K .nrm (f70s5 out3)) :=
  viaSeq (fun k => spec_l2Least.Z6 N out3 f1_0 f1_1 k) (by kernel_rfl) (by kernel_rfl) (f70t6 N out3 f1_0 f1_1 (seqK (fun σ => f70i N f70c7 f70p7 σ (joinK (some f70l5) K)) (joinK (some f70l5) K))) (funext fun out3 => funext fun k4 => funext fun f1_0 => funext fun f1_1 => f70t7 N out3 k4 f1_0 f1_1 K) (by kernel_rfl) (by kernel_rfl)
noncomputable def f70c19 := codeAt (bodyOf Try.f70) [1,1,1]
theorem f70t19 {ρ : Type} (N : Nat) (out3 : List Int) (K : KT ρ) : f70i N f70c19 .n (f70s5 out3) (joinK (some f70lE) K) =
  spec_l2Least.Z19 N out3 (fun t2 => K .ret (f70s6 t2)) := by kernel_rfl
noncomputable def f70c4 := codeAt (bodyOf Try.f70) [1,1]
noncomputable def f70p4 : Plan := .mk (some f70l5) none f70p5 .n
theorem f70t4 {ρ : Type} (N : Nat) (out3 : List Int) (f1_0 : Int) (f1_1 : List (List Int × Int)) (K : KT ρ) : f70i N f70c4 f70p4 (f70s2 out3 f1_0 f1_1) (joinK (some f70lE) K) =
  spec_l2Least.Z4 N out3 f1_0 f1_1 (fun t2 => K .ret (f70s6 t2)) :=
  viaSeq (fun k => spec_l2Least.Z5 N out3 f1_0 f1_1 k) (by kernel_rfl) (by kernel_rfl) (f70t5 N out3 f1_0 f1_1 (seqK (fun σ => f70i N f70c19 .n σ (joinK (some f70lE) K)) (joinK (some f70lE) K))) (funext fun out3 => f70t19 N out3 K) (by kernel_rfl) (by kernel_rfl)
noncomputable def f70c2 := codeAt (bodyOf Try.f70) [1]
noncomputable def f70p2 : Plan := .mk (some f70l2) none .n f70p4
theorem f70t2 {ρ : Type} (N : Nat) (f1_0 : Int) (f1_1 : List (List Int × Int)) (K : KT ρ) : f70i N f70c2 f70p2 (f70s1 f1_0 f1_1) (joinK (some f70lE) K) =
  spec_l2Least.Z2 N f1_0 f1_1 (fun t2 => K .ret (f70s6 t2)) :=
  viaSeq (fun k => spec_l2Least.Z3 N f1_0 f1_1 k) (by kernel_rfl) (by kernel_rfl) (f70t3 N f1_0 f1_1 (seqK (fun σ => f70i N f70c4 f70p4 σ (joinK (some f70lE) K)) (joinK (some f70lE) K))) (funext fun out3 => funext fun f1_0 => funext fun f1_1 => f70t4 N out3 f1_0 f1_1 K) (by kernel_rfl) (by kernel_rfl)
noncomputable def f70c0 := codeAt (bodyOf Try.f70) []
noncomputable def f70p0 : Plan := .mk (some f70l1) none .n f70p2
theorem f70t0 {ρ : Type} (N : Nat) (f0 : Int × List (List Int × Int)) (K : KT ρ) : f70i N f70c0 f70p0 (f70s0 f0) (joinK (some f70lE) K) =
  spec_l2Least.Z0 N f0 (fun t2 => K .ret (f70s6 t2)) :=
  viaSeq (fun k => spec_l2Least.Z1 N f0 k) (by kernel_rfl) (by kernel_rfl) (f70t1 N f0 (seqK (fun σ => f70i N f70c2 f70p2 σ (joinK (some f70lE) K)) (joinK (some f70lE) K))) (funext fun f1_0 => funext fun f1_1 => f70t2 N f1_0 f1_1 K) (by kernel_rfl) (by kernel_rfl)
theorem f70m (N : Nat) (f0 : Int × List (List Int × Int)) : f70i N f70c0 f70p0 (f70s0 f0) (joinK (some f70lE) (finK tab f70sig Try.f70.results.toList)) = spec_l2Least.Z0 N f0 (fun t2 => some ((), (t2, ()))) :=
  (f70t0 N f0 (finK tab f70sig Try.f70.results.toList)).trans (by kernel_rfl)
theorem f70ok (h : spec_l2Least.Spec) : EntryOk Try.prog 70 e70 :=
  entry_of_code (sig := f70sig) (c := f70c0) (pl := f70p0) (je := (some f70lE)) (B := f70B) Try.func70 (by kernel_rfl) (by kernel_rfl) (by kernel_rfl) tabOk f70GOk (by kernel_rfl) (by kernel_rfl) (by kernel_rfl) (by kernel_rfl) fun X hb hp => by
    obtain ⟨f0, _⟩ := X
    obtain ⟨N, h⟩ := h f0 hb.1 hp
    exact ⟨N, (f70m N f0).trans (h N (Nat.le_refl N))⟩
theorem e70ok : EntryOk Try.prog 70 e70 := f70ok spec_l2Least.ok
end Go.Fw
set_option linter.unusedVariables false
set_option linter.unusedSimpArgs false
set_option maxRecDepth 100000
namespace Go.Fw
open Go.Proofs
/-! ### loop.example/g03115/spec.DenominatorOf -/
noncomputable def f41sig : Sig := ⟨[⟨.pair (.int .i64) (.sl 59 (.pair (.sl 3 (.int .i64)) (.int .i64))), true, false⟩], [⟨.sl 3 (.int .i64), false, false⟩]⟩
noncomputable def e41 : Entry := ⟨f41sig, none, fun X => ((), ((spec_DenominatorOf.g X.1), ()))⟩
noncomputable def f41G : Nat → Option Entry := addG (addG (fun _ => none) 54 e54) 70 e70
theorem f41GOk : GOk Try.prog f41G := ((GOk.nil).add e54ok (by kernel_rfl)).add e70ok (by kernel_rfl)
noncomputable def f41lE : Clean := ⟨[], [], [], [], []⟩
noncomputable def f41s0 (f0 : Int × List (List Int × Int)) : St := initSt f41sig.ps (f0, ())
noncomputable def f41s1 (f1_0 : Int) (f1_1 : List (List Int × Int)) : St := stOf [(1, .c (.box 1 0))] [(1, (25, [.int .i64 f1_0, .sn 59 (.pair (.sl 3 (.int .i64)) (.int .i64)) f1_1 none]))] []
noncomputable def f41l1 : Clean := ⟨[1], [1], [], [], []⟩
noncomputable def f41s2 (out3 : List Int) (f1_0 : Int) (f1_1 : List (List Int × Int)) : St := stOf [(1, .c (.box 1 0)), (3, .c (.own 1000192))] [(1, (25, [.int .i64 f1_0, .sn 59 (.pair (.sl 3 (.int .i64)) (.int .i64)) f1_1 none]))] [(1000192, (⟨3, .int .i64, out3, true, false⟩ : Row))]
noncomputable def f41l2 : Clean := ⟨[1, 3], [1], [], [], [(⟨false, 3, 0⟩, 1000192)]⟩
noncomputable def f41s3 (out3 : List Int) (i4 : Int) (f1_0 : Int) (f1_1 : List (List Int × Int)) : St := stOf [(1, .c (.box 1 0)), (3, .c (.own 1000192)), (4, .c (.int .i64 i4))] [(1, (25, [.int .i64 f1_0, .sn 59 (.pair (.sl 3 (.int .i64)) (.int .i64)) f1_1 none]))] [(1000192, (⟨3, .int .i64, out3, true, false⟩ : Row))]
noncomputable def f41l3 : Clean := ⟨[1, 3, 4], [1], [], [], [(⟨false, 3, 0⟩, 1000192)]⟩
noncomputable def f41s4 (out3 : List Int) : St := stOf [(3, .c (.own 1000192))] [] [(1000192, (⟨3, .int .i64, out3, true, false⟩ : Row))]
noncomputable def f41l4 : Clean := ⟨[3], [], [], [], [(⟨false, 3, 0⟩, 1000192)]⟩
noncomputable def f41s5 (t2 : List Int) : St := stOf [(2, .c (.own 1000128))] [] [(1000128, (⟨3, .int .i64, t2, true, false⟩ : Row))]
noncomputable def f41l5 : Clean := ⟨[2], [], [⟨⟨false, 2, 0⟩, 30000000, 3, .int .i64, true⟩], [], [(⟨false, 2, 0⟩, 1000128)]⟩
noncomputable def f41B : Nat → Option Clean := lookL [(0, f41l4), (1000000, f41l5)]
noncomputable abbrev f41i {ρ : Type} (N : Nat) (c : Code) (p : Plan) (σ : St) (K : KT ρ) : Option ρ := iCode f41G tab f41B N c p σ K
noncomputable def f41c1 := codeAt (bodyOf Try.f41) [0]
theorem f41t1 {ρ : Type} (N : Nat) (f0 : Int × List (List Int × Int)) (K : KT ρ) : f41i N f41c1 .n (f41s0 f0) (joinK (some f41l1) K) =
  spec_DenominatorOf.Z1 N f0 (fun f1_0 f1_1 => K .nrm (f41s1 f1_0 f1_1)) := by kernel_rfl
noncomputable def f41c3 := codeAt (bodyOf Try.f41) [1,0]
theorem f41t3 {ρ : Type} (N : Nat) (f1_0 : Int) (f1_1 : List (List Int × Int)) (K : KT ρ) : f41i N f41c3 .n (f41s1 f1_0 f1_1) (joinK (some f41l1) K) =
  spec_DenominatorOf.Z3 N f1_0 f1_1 (fun f1_0 f1_1 => K .nrm (f41s1 f1_0 f1_1)) (fun t2 => K .ret (f41s5 t2)) := by kernel_rfl
noncomputable def f41c5 := codeAt (bodyOf Try.f41) [1,1,0]
theorem f41t5 {ρ : Type} (N : Nat) (f1_0 : Int) (f1_1 : List (List Int × Int)) (K : KT ρ) : f41i N f41c5 .n (f41s1 f1_0 f1_1) (joinK (some f41l2) K) =
  spec_DenominatorOf.Z5 N f1_0 f1_1 (fun out3 f1_0 f1_1 => K .nrm (f41s2 out3 f1_0 f1_1)) := by kernel_rfl
noncomputable def f41c8 := codeAt (bodyOf Try.f41) [1,1,1,0,0]
theorem f41t8 {ρ : Type} (N : Nat) (out3 : List Int) (f1_0 : Int) (f1_1 : List (List Int × Int)) (K : KT ρ) : f41i N f41c8 .n (f41s2 out3 f1_0 f1_1) (joinK (some f41l3) K) =
  spec_DenominatorOf.Z8 N out3 f1_0 f1_1 (fun out3 i4 f1_0 f1_1 => K .nrm (f41s3 out3 i4 f1_0 f1_1)) := by kernel_rfl
noncomputable def f41c11 := codeAt (bodyOf Try.f41) [1,1,1,0,1,0,0]
theorem f41t11 {ρ : Type} (N : Nat) (out3 : List Int) (i4 : Int) (f1_0 : Int) (f1_1 : List (List Int × Int)) (K : KT ρ) : f41i N f41c11 .n (f41s3 out3 i4 f1_0 f1_1) (joinK (some f41l3) K) =
  spec_DenominatorOf.Z11 N out3 i4 f1_0 f1_1 (fun out3 i4 f1_0 f1_1 => K .nrm (f41s3 out3 i4 f1_0 f1_1)) (fun out3 => K (.exit 0) (f41s4 out3)) := by kernel_rfl
noncomputable def f41c10 := codeAt (bodyOf Try.f41) [1,1,1,0,1,0]
noncomputable def f41p10 : Plan := .mk none (some f41l3) .n .n
noncomputable abbrev f41w10 {ρ : Type} (N : Nat) (M : Nat) (σ : St) (K : KT ρ) : Option ρ := loopC (fun σ K => f41i N f41c11 .n σ K) f41l3 M σ K
theorem f41t10L {ρ : Type} (N : Nat) (K : KT ρ) : ∀ (M : Nat) (out3 : List Int) (i4 : Int) (f1_0 : Int) (f1_1 : List (List Int × Int)), f41w10 N M (f41s3 out3 i4 f1_0 f1_1) K =
  spec_DenominatorOf.Z10L N (fun out3 => K (.exit 0) (f41s4 out3)) M out3 i4 f1_0 f1_1
  | 0, _, _, _, _ => rfl
  | M + 1, out3, i4, f1_0, f1_1 => viaRound (fun k => spec_DenominatorOf.Z11 N out3 i4 f1_0 f1_1 k (fun out3 => K (.exit 0) (f41s4 out3))) (f41t11 N out3 i4 f1_0 f1_1 (seqK (fun σ => f41w10 N M σ K) K)) (funext fun out3 => funext fun i4 => funext fun f1_0 => funext fun f1_1 => f41t10L N K M out3 i4 f1_0 f1_1) (by kernel_rfl) (by kernel_rfl)
theorem f41t10 {ρ : Type} (N : Nat) (out3 : List Int) (i4 : Int) (f1_0 : Int) (f1_1 : List (List Int × Int)) (K : KT ρ) : f41i N f41c10 f41p10 (f41s3 out3 i4 f1_0 f1_1) (joinK (some f41l4) K) =
  spec_DenominatorOf.Z10 N out3 i4 f1_0 f1_1 (fun out3 => K (.exit 0) (f41s4 out3)) :=
  viaLoop (by kernel_rfl) (by kernel_rfl) (σ' := f41s3 out3 i4 f1_0 f1_1) (by kernel_rfl) (f41t10L N (joinK (some f41l4) K) N out3 i4 f1_0 f1_1) (by kernel_rfl)
noncomputable def f41c9 := codeAt (bodyOf Try.f41) [1,1,1,0,1]
noncomputable def f41p9 : Plan := .mk (some f41l4) none f41p10 .n
theorem f41t9 {ρ : Type} (N : Nat) (out3 : List Int) (i4 : Int) (f1_0 : Int) (f1_1 : List (List Int × Int)) (K : KT ρ) : f41i N f41c9 f41p9 (f41s3 out3 i4 f1_0 f1_1) (joinK (some f41l4) K) =
  spec_DenominatorOf.Z9 N out3 i4 f1_0 f1_1 (fun out3 => K .nrm (f41s4 out3)) :=
  viaBlock (by kernel_rfl) (by kernel_rfl) (f41t10 N out3 i4 f1_0 f1_1 (blockK 0 (joinK (some f41l4) K))) (by kernel_rfl)
noncomputable def f41c7 := codeAt (bodyOf Try.f41) [1,1,1,0]
noncomputable def f41p7 : Plan := .mk (some f41l3) none .n f41p9
theorem f41t7 {ρ : Type} (N : Nat) (out3 : List Int) (f1_0 : Int) (f1_1 : List (List Int × Int)) (K : KT ρ) : f41i N f41c7 f41p7 (f41s2 out3 f1_0 f1_1) (joinK (some f41l4) K) =
  spec_DenominatorOf.Z7 N out3 f1_0 f1_1 (fun out3 => K .nrm (f41s4 out3)) :=
  viaSeq (fun k => spec_DenominatorOf.Z8 N out3 f1_0 f1_1 k) (by kernel_rfl) (by kernel_rfl) (f41t8 N out3 f1_0 f1_1 (seqK (fun σ => f41i N f41c9 f41p9 σ (joinK (some f41l4) K)) (joinK (some f41l4) K))) (funext fun out3 => funext fun i4 => funext fun f1_0 => funext fun f1_1 => f41t9 N out3 i4 f1_0 f1_1 K) (by kernel_rfl) (by kernel_rfl)
noncomputable def f41c12 := codeAt (bodyOf Try.f41) [1,1,1,1]
theorem f41t12 {ρ : Type} (N : Nat) (out3 : List Int) (K : KT ρ) : f41i N f41c12 .n (f41s4 out3) (joinK (some f41lE) K) =
  spec_DenominatorOf.Z12 N out3 (fun t2 => K .ret (f41s5 t2)) := by kernel_rfl
noncomputable def f41c6 := codeAt (bodyOf Try.f41) [1,1,1]
noncomputable def f41p6 : Plan := .mk (some f41l4) none f41p7 .n
theorem f41t6 {ρ : Type} (N : Nat) (out3 : List Int) (f1_0 : Int) (f1_1 : List (List Int × Int)) (K : KT ρ) : f41i N f41c6 f41p6 (f41s2 out3 f1_0 f1_1) (joinK (some f41lE) K) =
  spec_DenominatorOf.Z6 N out3 f1_0 f1_1 (fun t2 => K .ret (f41s5 t2)) :=
  viaSeq (fun k => spec_DenominatorOf.Z7 N out3 f1_0 f1_1 k) (by kernel_rfl) (by kernel_rfl) (f41t7 N out3 f1_0 f1_1 (seqK (fun σ => f41i N f41c12 .n σ (joinK (some f41lE) K)) (joinK (some f41lE) K))) (funext fun out3 => f41t12 N out3 K) (by kernel_rfl) (by kernel_rfl)
noncomputable def f41c4 := codeAt (bodyOf Try.f41) [1,1]
noncomputable def f41p4 : Plan := .mk (some f41l2) none .n f41p6
theorem f41t4 {ρ : Type} (N : Nat) (f1_0 : Int) (f1_1 : List (List Int × Int)) (K : KT ρ) : f41i N f41c4 f41p4 (f41s1 f1_0 f1_1) (joinK (some f41lE) K) =
  spec_DenominatorOf.Z4 N f1_0 f1_1 (fun t2 => K .ret (f41s5 t2)) :=
  viaSeq (fun k => spec_DenominatorOf.Z5 N f1_0 f1_1 k) (by kernel_rfl) (by kernel_rfl) (f41t5 N f1_0 f1_1 (seqK (fun σ => f41i N f41c6 f41p6 σ (joinK (some f41lE) K)) (joinK (some f41lE) K))) (funext fun out3 => funext fun f1_0 => funext fun f1_1 => f41t6 N out3 f1_0 f1_1 K) (by kernel_rfl) (by kernel_rfl)
noncomputable def f41c2 := codeAt (bodyOf Try.f41) [1]
noncomputable def f41p2 : Plan := .mk (some f41l1) none .n f41p4
theorem f41t2 {ρ : Type} (N : Nat) (f1_0 : Int) (f1_1 : List (List Int × Int)) (K : KT ρ) : f41i N f41c2 f41p2 (f41s1 f1_0 f1_1) (joinK (some f41lE) K) =
  spec_DenominatorOf.Z2 N f1_0 f1_1 (fun t2 => K .ret (f41s5 t2)) :=
  viaSeq (fun k => spec_DenominatorOf.Z3 N f1_0 f1_1 k (fun t2 => K .ret (f41s5 t2))) (by kernel_rfl) (by kernel_rfl) (f41t3 N f1_0 f1_1 (seqK (fun σ => f41i N f41c4 f41p4 σ (joinK (some f41lE) K)) (joinK (some f41lE) K))) (funext fun f1_0 => funext fun f1_1 => f41t4 N f1_0 f1_1 K) (by kernel_rfl) (by kernel_rfl)
noncomputable def f41c0 := codeAt (bodyOf Try.f41) []
noncomputable def f41p0 : Plan := .mk (some f41l1) none .n f41p2
theorem f41t0 {ρ : Type} (N : Nat) (f0 : Int × List (List Int × Int)) (K : KT ρ) : f41i N f41c0 f41p0 (f41s0 f0) (joinK (some f41lE) K) =
  spec_DenominatorOf.Z0 N f0 (fun t2 => K .ret (f41s5 t2)) :=
  viaSeq (fun k => spec_DenominatorOf.Z1 N f0 k) (by kernel_rfl) (by kernel_rfl) (f41t1 N f0 (seqK (fun σ => f41i N f41c2 f41p2 σ (joinK (some f41lE) K)) (joinK (some f41lE) K))) (funext fun f1_0 => funext fun f1_1 => f41t2 N f1_0 f1_1 K) (by kernel_rfl) (by kernel_rfl)
theorem f41m (N : Nat) (f0 : Int × List (List Int × Int)) : f41i N f41c0 f41p0 (f41s0 f0) (joinK (some f41lE) (finK tab f41sig Try.f41.results.toList)) = spec_DenominatorOf.Z0 N f0 (fun t2 => some ((), (t2, ()))) :=
  (f41t0 N f0 (finK tab f41sig Try.f41.results.toList)).trans (by kernel_rfl)
theorem f41ok (h : spec_DenominatorOf.Spec) : EntryOk Try.prog 41 e41 :=
  entry_of_code (sig := f41sig) (c := f41c0) (pl := f41p0) (je := (some f41lE)) (B := f41B) Try.func41 (by kernel_rfl) (by kernel_rfl) (by kernel_rfl) tabOk f41GOk (by kernel_rfl) (by kernel_rfl) (by kernel_rfl) (by kernel_rfl) fun X hb hp => by
    obtain ⟨f0, _⟩ := X
    obtain ⟨N, h⟩ := h f0 hb.1
    exact ⟨N, (f41m N f0).trans (h N (Nat.le_refl N))⟩
theorem e41ok : EntryOk Try.prog 41 e41 := f41ok spec_DenominatorOf.ok
end Go.Fw
set_option linter.unusedVariables false
set_option linter.unusedSimpArgs false
set_option maxRecDepth 100000
namespace Go.Fw
open Go.Proofs
/-! ### loop.example/g03115/impl.within -/
noncomputable def f49sig : Sig := ⟨[⟨.int .i64, false, false⟩, ⟨.int .i64, false, false⟩, ⟨.int .i64, false, false⟩], [⟨.bool, false, false⟩]⟩
noncomputable def e49 : Entry := ⟨f49sig, none, fun X => ((), ((impl_within.g X.1 X.2.1 X.2.2.1), ()))⟩
noncomputable def f49G : Nat → Option Entry := (fun _ => none)
theorem f49GOk : GOk Try.prog f49G := GOk.nil
noncomputable def f49lE : Clean := ⟨[], [], [], [], []⟩
noncomputable def f49s0 (n0 : Int) (low1 : Int) (high2 : Int) : St := initSt f49sig.ps (n0, (low1, (high2, ())))
noncomputable def f49s1 (t6 : Bool) : St := stOf [(6, .c (.bool t6))] [] []
noncomputable def f49l1 : Clean := ⟨[6], [], [], [], []⟩
noncomputable def f49B : Nat → Option Clean := lookL [(1000000, f49l1)]
noncomputable abbrev f49i {ρ : Type} (N : Nat) (c : Code) (p : Plan) (σ : St) (K : KT ρ) : Option ρ := iCode f49G tab f49B N c p σ K
noncomputable def f49c0 := codeAt (bodyOf Try.f49) []
theorem f49t0 {ρ : Type} (N : Nat) (n0 : Int) (low1 : Int) (high2 : Int) (K : KT ρ) : f49i N f49c0 .n (f49s0 n0 low1 high2) (joinK (some f49lE) K) =
  impl_within.Z0 N n0 low1 high2 (fun t6 => K .ret (f49s1 t6)) := by kernel_rfl
theorem f49m (N : Nat) (n0 : Int) (low1 : Int) (high2 : Int) : f49i N f49c0 .n (f49s0 n0 low1 high2) (joinK (some f49lE) (finK tab f49sig Try.f49.results.toList)) = impl_within.Z0 N n0 low1 high2 (fun t6 => some ((), (t6, ()))) :=
  (f49t0 N n0 low1 high2 (finK tab f49sig Try.f49.results.toList)).trans (by kernel_rfl)
theorem f49ok (h : impl_within.Spec) : EntryOk Try.prog 49 e49 :=
  entry_of_code (sig := f49sig) (c := f49c0) (pl := .n) (je := (some f49lE)) (B := f49B) Try.func49 (by kernel_rfl) (by kernel_rfl) (by kernel_rfl) tabOk f49GOk (by kernel_rfl) (by kernel_rfl) (by kernel_rfl) (by kernel_rfl) fun X hb hp => by
    obtain ⟨n0, low1, high2, _⟩ := X
    obtain ⟨N, h⟩ := h n0 low1 high2
    exact ⟨N, (f49m N n0 low1 high2).trans (h N (Nat.le_refl N))⟩
theorem e49ok : EntryOk Try.prog 49 e49 := f49ok impl_within.ok
end Go.Fw
set_option linter.unusedVariables false
set_option linter.unusedSimpArgs false
set_option maxRecDepth 100000
namespace Go.Fw
open Go.Proofs
/-! ### loop.example/g03115/impl.expOk$1 -/
noncomputable def f80sig : Sig := ⟨[⟨.int .i64, false, false⟩], [⟨.bool, false, false⟩]⟩
noncomputable def e80 : Entry := ⟨f80sig, none, fun X => ((), ((impl_expOk_1.g X.1), ()))⟩
noncomputable def f80G : Nat → Option Entry := addG (fun _ => none) 49 e49
theorem f80GOk : GOk Try.prog f80G := (GOk.nil).add e49ok (by kernel_rfl)
noncomputable def f80lE : Clean := ⟨[], [], [], [], []⟩
noncomputable def f80s0 (e0 : Int) : St := initSt f80sig.ps (e0, ())
noncomputable def f80s1 (t2 : Bool) : St := stOf [(2, .c (.bool t2))] [] []
noncomputable def f80l1 : Clean := ⟨[2], [], [], [], []⟩
noncomputable def f80B : Nat → Option Clean := lookL [(1000000, f80l1)]
noncomputable abbrev f80i {ρ : Type} (N : Nat) (c : Code) (p : Plan) (σ : St) (K : KT ρ) : Option ρ := iCode f80G tab f80B N c p σ K
noncomputable def f80c0 := codeAt (bodyOf Try.f80) []
theorem f80t0 {ρ : Type} (N : Nat) (e0 : Int) (K : KT ρ) : f80i N f80c0 .n (f80s0 e0) (joinK (some f80lE) K) =
  impl_expOk_1.Z0 N e0 (fun t2 => K .ret (f80s1 t2)) := by kernel_rfl
theorem f80m (N : Nat) (e0 : Int) : f80i N f80c0 .n (f80s0 e0) (joinK (some f80lE) (finK tab f80sig Try.f80.results.toList)) = impl_expOk_1.Z0 N e0 (fun t2 => some ((), (t2, ()))) :=
  (f80t0 N e0 (finK tab f80sig Try.f80.results.toList)).trans (by kernel_rfl)
theorem f80ok (h : impl_expOk_1.Spec) : EntryOk Try.prog 80 e80 :=
  entry_of_code (sig := f80sig) (c := f80c0) (pl := .n) (je := (some f80lE)) (B := f80B) Try.func80 (by kernel_rfl) (by kernel_rfl) (by kernel_rfl) tabOk f80GOk (by kernel_rfl) (by kernel_rfl) (by kernel_rfl) (by kernel_rfl) fun X hb hp => by
    obtain ⟨e0, _⟩ := X
    obtain ⟨N, h⟩ := h e0
    exact ⟨N, (f80m N e0).trans (h N (Nat.le_refl N))⟩
theorem e80ok : EntryOk Try.prog 80 e80 := f80ok impl_expOk_1.ok
end Go.Fw
set_option linter.unusedVariables false
set_option linter.unusedSimpArgs false
set_option maxRecDepth 100000
namespace Go.Fw
open Go.Proofs
/-! ### slices.IndexFunc[[]int,int] -/
noncomputable def f90sig : Sig := ⟨[⟨.sl 3 (.int .i64), false, false⟩, ⟨.fnc 80, false, false⟩], [⟨.int .i64, false, false⟩]⟩
noncomputable def e90 : Entry := ⟨f90sig, none, fun X => ((), ((slices_IndexFunc_int_int_expOk.g X.1 X.2.1), ()))⟩
noncomputable def f90G : Nat → Option Entry := addG (fun _ => none) 80 e80
theorem f90GOk : GOk Try.prog f90G := (GOk.nil).add e80ok (by kernel_rfl)
noncomputable def f90lE : Clean := ⟨[], [], [], [], []⟩
noncomputable def f90s0 (s0 : List Int) (f1 : Unit) : St := initSt f90sig.ps (s0, (f1, ()))
noncomputable def f90s1 (s0 : List Int) : St := stOf [(0, .c (.sn 3 (.int .i64) s0 none)), (1, .c (.fn 80 []))] [] []
noncomputable def f90l1 : Clean := ⟨[0, 1], [], [], [], []⟩
noncomputable def f90s2 (s0 : List Int) (t7 : Int) (t8 : Int) : St := stOf [(0, .c (.sn 3 (.int .i64) s0 none)), (1, .c (.fn 80 [])), (7, .c (.int .i64 t7)), (8, .c (.int .i64 t8))] [] []
noncomputable def f90l2 : Clean := ⟨[0, 1, 7, 8], [], [], [], []⟩
noncomputable def f90s3  : St := stOf [] [] []
noncomputable def f90l3 : Clean := ⟨[], [], [], [], []⟩
noncomputable def f90s4 (t4 : Int) : St := stOf [(4, .c (.int .i64 t4))] [] []
noncomputable def f90l4 : Clean := ⟨[4], [], [], [], []⟩
noncomputable def f90B : Nat → Option Clean := lookL [(0, f90l3), (1000000, f90l4)]
noncomputable abbrev f90i {ρ : Type} (N : Nat) (c : Code) (p : Plan) (σ : St) (K : KT ρ) : Option ρ := iCode f90G tab f90B N c p σ K
noncomputable def f90c1 := codeAt (bodyOf Try.f90) [0]
theorem f90t1 {ρ : Type} (N : Nat) (s0 : List Int) (f1 : Unit) (K : KT ρ) : f90i N f90c1 .n (f90s0 s0 f1) (joinK (some f90l1) K) =
  slices_IndexFunc_int_int_expOk.Z1 N s0 f1 (fun s0 => K .nrm (f90s1 s0)) := by kernel_rfl
noncomputable def f90c4 := codeAt (bodyOf Try.f90) [1,0,0]
theorem f90t4 {ρ : Type} (N : Nat) (s0 : List Int) (K : KT ρ) : f90i N f90c4 .n (f90s1 s0) (joinK (some f90l2) K) =
  slices_IndexFunc_int_int_expOk.Z4 N s0 (fun s0 t7 t8 => K .nrm (f90s2 s0 t7 t8)) := by kernel_rfl
noncomputable def f90c7 := codeAt (bodyOf Try.f90) [1,0,1,0,0]
theorem f90t7 {ρ : Type} (N : Nat) (s0 : List Int) (t7 : Int) (t8 : Int) (K : KT ρ) : f90i N f90c7 .n (f90s2 s0 t7 t8) (joinK (some f90l2) K) =
  slices_IndexFunc_int_int_expOk.Z7 N s0 t7 t8 (fun s0 t7 t8 => K .nrm (f90s2 s0 t7 t8)) (K (.exit 0) f90s3) (fun t4 => K .ret (f90s4 t4)) := by kernel_rfl
noncomputable def f90c6 := codeAt (bodyOf Try.f90) [1,0,1,0]
noncomputable def f90p6 : Plan := .mk none (some f90l2) .n .n
noncomputable abbrev f90w6 {ρ : Type} (N : Nat) (M : Nat) (σ : St) (K : KT ρ) : Option ρ := loopC (fun σ K => f90i N f90c7 .n σ K) f90l2 M σ K
theorem f90t6L {ρ : Type} (N : Nat) (K : KT ρ) : ∀ (M : Nat) (s0 : List Int) (t7 : Int) (t8 : Int), f90w6 N M (f90s2 s0 t7 t8) K =
  slices_IndexFunc_int_int_expOk.Z6L N (K (.exit 0) f90s3) (fun t4 => K .ret (f90s4 t4)) M s0 t7 t8
  | 0, _, _, _ => rfl
  | M + 1, s0, t7, t8 => viaRound (fun k => slices_IndexFunc_int_int_expOk.Z7 N s0 t7 t8 k (K (.exit 0) f90s3) (fun t4 => K .ret (f90s4 t4))) (f90t7 N s0 t7 t8 (seqK (fun σ => f90w6 N M σ K) K)) (funext fun s0 => funext fun t7 => funext fun t8 => f90t6L N K M s0 t7 t8) (by kernel_rfl) (by kernel_rfl)
theorem f90t6 {ρ : Type} (N : Nat) (s0 : List Int) (t7 : Int) (t8 : Int) (K : KT ρ) : f90i N f90c6 f90p6 (f90s2 s0 t7 t8) (joinK (some f90l3) K) =
  slices_IndexFunc_int_int_expOk.Z6 N s0 t7 t8 (K (.exit 0) f90s3) (fun t4 => K .ret (f90s4 t4)) :=
  viaLoop (by kernel_rfl) (by kernel_rfl) (σ' := f90s2 s0 t7 t8) (by kernel_rfl) (f90t6L N (joinK (some f90l3) K) N s0 t7 t8) (by kernel_rfl)
noncomputable def f90c5 := codeAt (bodyOf Try.f90) [1,0,1]
noncomputable def f90p5 : Plan := .mk (some f90l3) none f90p6 .n
theorem f90t5 {ρ : Type} (N : Nat) (s0 : List Int) (t7 : Int) (t8 : Int) (K : KT ρ) : f90i N f90c5 f90p5 (f90s2 s0 t7 t8) (joinK (some f90l3) K) =
  slices_IndexFunc_int_int_expOk.Z5 N s0 t7 t8 (K .nrm f90s3) (fun t4 => K .ret (f90s4 t4)) :=
  viaBlock (by kernel_rfl) (by kernel_rfl) (f90t6 N s0 t7 t8 (blockK 0 (joinK (some f90l3) K))) (by kernel_rfl)
noncomputable def f90c3 := codeAt (bodyOf Try.f90) [1,0]
noncomputable def f90p3 : Plan := .mk (some f90l2) none .n f90p5
theorem f90t3 {ρ : Type} (N : Nat) (s0 : List Int) (K : KT ρ) : f90i N f90c3 f90p3 (f90s1 s0) (joinK (some f90l3) K) =
  slices_IndexFunc_int_int_expOk.Z3 N s0 (K .nrm f90s3) (fun t4 => K .ret (f90s4 t4)) :=
  viaSeq (fun k => slices_IndexFunc_int_int_expOk.Z4 N s0 k) (by kernel_rfl) (by kernel_rfl) (f90t4 N s0 (seqK (fun σ => f90i N f90c5 f90p5 σ (joinK (some f90l3) K)) (joinK (some f90l3) K))) (funext fun s0 => funext fun t7 => funext fun t8 => f90t5 N s0 t7 t8 K) (by kernel_rfl) (by kernel_rfl)
noncomputable def f90c8 := codeAt (bodyOf Try.f90) [1,1]
theorem f90t8 {ρ : Type} (N : Nat)  (K : KT ρ) : f90i N f90c8 .n f90s3 (joinK (some f90lE) K) =
  slices_IndexFunc_int_int_expOk.Z8 N (fun t4 => K .ret (f90s4 t4)) := by kernel_rfl
noncomputable def f90c2 := codeAt (bodyOf Try.f90) [1]
noncomputable def f90p2 : Plan := .mk (some f90l3) none f90p3 .n
theorem f90t2 {ρ : Type} (N : Nat) (s0 : List Int) (K : KT ρ) : f90i N f90c2 f90p2 (f90s1 s0) (joinK (some f90lE) K) =
  slices_IndexFunc_int_int_expOk.Z2 N s0 (fun t4 => K .ret (f90s4 t4)) :=
  viaSeq (fun k => slices_IndexFunc_int_int_expOk.Z3 N s0 k (fun t4 => K .ret (f90s4 t4))) (by kernel_rfl) (by kernel_rfl) (f90t3 N s0 (seqK (fun σ => f90i N f90c8 .n σ (joinK (some f90lE) K)) (joinK (some f90lE) K))) (f90t8 N K) (by kernel_rfl) (by kernel_rfl)
noncomputable def f90c0 := codeAt (bodyOf Try.f90) []
noncomputable def f90p0 : Plan := .mk (some f90l1) none .n f90p2
theorem f90t0 {ρ : Type} (N : Nat) (s0 : List Int) (f1 : Unit) (K : KT ρ) : f90i N f90c0 f90p0 (f90s0 s0 f1) (joinK (some f90lE) K) =
  slices_IndexFunc_int_int_expOk.Z0 N s0 f1 (fun t4 => K .ret (f90s4 t4)) :=
  viaSeq (fun k => slices_IndexFunc_int_int_expOk.Z1 N s0 f1 k) (by kernel_rfl) (by kernel_rfl) (f90t1 N s0 f1 (seqK (fun σ => f90i N f90c2 f90p2 σ (joinK (some f90lE) K)) (joinK (some f90lE) K))) (funext fun s0 => f90t2 N s0 K) (by kernel_rfl) (by kernel_rfl)
theorem f90m (N : Nat) (s0 : List Int) (f1 : Unit) : f90i N f90c0 f90p0 (f90s0 s0 f1) (joinK (some f90lE) (finK tab f90sig Try.f90.results.toList)) = slices_IndexFunc_int_int_expOk.Z0 N s0 f1 (fun t4 => some ((), (t4, ()))) :=
  (f90t0 N s0 f1 (finK tab f90sig Try.f90.results.toList)).trans (by kernel_rfl)
theorem f90ok (h : slices_IndexFunc_int_int_expOk.Spec) : EntryOk Try.prog 90 e90 :=
  entry_of_code (sig := f90sig) (c := f90c0) (pl := f90p0) (je := (some f90lE)) (B := f90B) Try.func90 (by kernel_rfl) (by kernel_rfl) (by kernel_rfl) tabOk f90GOk (by kernel_rfl) (by kernel_rfl) (by kernel_rfl) (by kernel_rfl) fun X hb hp => by
    obtain ⟨s0, f1, _⟩ := X
    obtain ⟨N, h⟩ := h s0 f1 hb.1
    exact ⟨N, (f90m N s0 f1).trans (h N (Nat.le_refl N))⟩
theorem e90ok : EntryOk Try.prog 90 e90 := f90ok slices_IndexFunc_int_int_expOk.ok
end Go.Fw
set_option linter.unusedVariables false
set_option linter.unusedSimpArgs false
set_option maxRecDepth 100000
namespace Go.Fw
open Go.Proofs
/-! ### slices.ContainsFunc[[]int,int] -/
noncomputable def f73sig : Sig := ⟨[⟨.sl 3 (.int .i64), false, false⟩, ⟨.fnc 80, false, false⟩], [⟨.bool, false, false⟩]⟩
noncomputable def e73 : Entry := ⟨f73sig, none, fun X => ((), ((slices_ContainsFunc_int_int_expOk.g X.1 X.2.1), ()))⟩
noncomputable def f73G : Nat → Option Entry := addG (fun _ => none) 90 e90
theorem f73GOk : GOk Try.prog f73G := (GOk.nil).add e90ok (by kernel_rfl)
noncomputable def f73lE : Clean := ⟨[], [], [], [], []⟩
noncomputable def f73s0 (s0 : List Int) (f1 : Unit) : St := initSt f73sig.ps (s0, (f1, ()))
noncomputable def f73s1 (t4 : Bool) : St := stOf [(4, .c (.bool t4))] [] []
noncomputable def f73l1 : Clean := ⟨[4], [], [], [], []⟩
noncomputable def f73B : Nat → Option Clean := lookL [(1000000, f73l1)]
noncomputable abbrev f73i {ρ : Type} (N : Nat) (c : Code) (p : Plan) (σ : St) (K : KT ρ) : Option ρ := iCode f73G tab f73B N c p σ K
noncomputable def f73c0 := codeAt (bodyOf Try.f73) []
theorem f73t0 {ρ : Type} (N : Nat) (s0 : List Int) (f1 : Unit) (K : KT ρ) : f73i N f73c0 .n (f73s0 s0 f1) (joinK (some f73lE) K) =
  slices_ContainsFunc_int_int_expOk.Z0 N s0 f1 (fun t4 => K .ret (f73s1 t4)) := by kernel_rfl
theorem f73m (N : Nat) (s0 : List Int) (f1 : Unit) : f73i N f73c0 .n (f73s0 s0 f1) (joinK (some f73lE) (finK tab f73sig Try.f73.results.toList)) = slices_ContainsFunc_int_int_expOk.Z0 N s0 f1 (fun t4 => some ((), (t4, ()))) :=
  (f73t0 N s0 f1 (finK tab f73sig Try.f73.results.toList)).trans (by kernel_rfl)
theorem f73ok (h : slices_ContainsFunc_int_int_expOk.Spec) : EntryOk Try.prog 73 e73 :=
  entry_of_code (sig := f73sig) (c := f73c0) (pl := .n) (je := (some f73lE)) (B := f73B) Try.func73 (by kernel_rfl) (by kernel_rfl) (by kernel_rfl) tabOk f73GOk (by kernel_rfl) (by kernel_rfl) (by kernel_rfl) (by kernel_rfl) fun X hb hp => by
    obtain ⟨s0, f1, _⟩ := X
    obtain ⟨N, h⟩ := h s0 f1 hb.1
    exact ⟨N, (f73m N s0 f1).trans (h N (Nat.le_refl N))⟩
theorem e73ok : EntryOk Try.prog 73 e73 := f73ok slices_ContainsFunc_int_int_expOk.ok
end Go.Fw
set_option linter.unusedVariables false
set_option linter.unusedSimpArgs false
set_option maxRecDepth 100000
namespace Go.Fw
open Go.Proofs
/-! ### loop.example/g03115/impl.expOk -/
noncomputable def f55sig : Sig := ⟨[⟨.sl 3 (.int .i64), false, false⟩, ⟨.int .i64, false, false⟩], [⟨.bool, false, false⟩]⟩
noncomputable def e55 : Entry := ⟨f55sig, none, fun X => ((), ((impl_expOk.g X.1 X.2.1), ()))⟩
noncomputable def f55G : Nat → Option Entry := addG (fun _ => none) 73 e73
theorem f55GOk : GOk Try.prog f55G := (GOk.nil).add e73ok (by kernel_rfl)
noncomputable def f55lE : Clean := ⟨[], [], [], [], []⟩
noncomputable def f55s0 (exp0 : List Int) (vars1 : Int) : St := initSt f55sig.ps (exp0, (vars1, ()))
noncomputable def f55s1 (t4 : Bool) : St := stOf [(4, .c (.bool t4))] [] []
noncomputable def f55l1 : Clean := ⟨[4], [], [], [], []⟩
noncomputable def f55B : Nat → Option Clean := lookL [(1000000, f55l1)]
noncomputable abbrev f55i {ρ : Type} (N : Nat) (c : Code) (p : Plan) (σ : St) (K : KT ρ) : Option ρ := iCode f55G tab f55B N c p σ K
noncomputable def f55c0 := codeAt (bodyOf Try.f55) []
theorem f55t0 {ρ : Type} (N : Nat) (exp0 : List Int) (vars1 : Int) (K : KT ρ) : f55i N f55c0 .n (f55s0 exp0 vars1) (joinK (some f55lE) K) =
  impl_expOk.Z0 N exp0 vars1 (fun t4 => K .ret (f55s1 t4)) := by kernel_rfl
theorem f55m (N : Nat) (exp0 : List Int) (vars1 : Int) : f55i N f55c0 .n (f55s0 exp0 vars1) (joinK (some f55lE) (finK tab f55sig Try.f55.results.toList)) = impl_expOk.Z0 N exp0 vars1 (fun t4 => some ((), (t4, ()))) :=
  (f55t0 N exp0 vars1 (finK tab f55sig Try.f55.results.toList)).trans (by kernel_rfl)
theorem f55ok (h : impl_expOk.Spec) : EntryOk Try.prog 55 e55 :=
  entry_of_code (sig := f55sig) (c := f55c0) (pl := .n) (je := (some f55lE)) (B := f55B) Try.func55 (by kernel_rfl) (by kernel_rfl) (by kernel_rfl) tabOk f55GOk (by kernel_rfl) (by kernel_rfl) (by kernel_rfl) (by kernel_rfl) fun X hb hp => by
    obtain ⟨exp0, vars1, _⟩ := X
    obtain ⟨N, h⟩ := h exp0 vars1 hb.1
    exact ⟨N, (f55m N exp0 vars1).trans (h N (Nat.le_refl N))⟩
theorem e55ok : EntryOk Try.prog 55 e55 := f55ok impl_expOk.ok
end Go.Fw
set_option linter.unusedVariables false
set_option linter.unusedSimpArgs false
set_option maxRecDepth 100000
namespace Go.Fw
open Go.Proofs
/-! ### loop.example/g03115/impl.coefOk -/
noncomputable def f59sig : Sig := ⟨[⟨.int .i64, false, false⟩], [⟨.bool, false, false⟩]⟩
noncomputable def e59 : Entry := ⟨f59sig, none, fun X => ((), ((impl_coefOk.g X.1), ()))⟩
noncomputable def f59G : Nat → Option Entry := addG (fun _ => none) 49 e49
theorem f59GOk : GOk Try.prog f59G := (GOk.nil).add e49ok (by kernel_rfl)
noncomputable def f59lE : Clean := ⟨[], [], [], [], []⟩
noncomputable def f59s0 (c0 : Int) : St := initSt f59sig.ps (c0, ())
noncomputable def f59s1 (t2 : Bool) : St := stOf [(2, .c (.bool t2))] [] []
noncomputable def f59l1 : Clean := ⟨[2], [], [], [], []⟩
noncomputable def f59B : Nat → Option Clean := lookL [(1000000, f59l1)]
noncomputable abbrev f59i {ρ : Type} (N : Nat) (c : Code) (p : Plan) (σ : St) (K : KT ρ) : Option ρ := iCode f59G tab f59B N c p σ K
noncomputable def f59c0 := codeAt (bodyOf Try.f59) []
theorem f59t0 {ρ : Type} (N : Nat) (c0 : Int) (K : KT ρ) : f59i N f59c0 .n (f59s0 c0) (joinK (some f59lE) K) =
  impl_coefOk.Z0 N c0 (fun t2 => K .ret (f59s1 t2)) := by kernel_rfl
theorem f59m (N : Nat) (c0 : Int) : f59i N f59c0 .n (f59s0 c0) (joinK (some f59lE) (finK tab f59sig Try.f59.results.toList)) = impl_coefOk.Z0 N c0 (fun t2 => some ((), (t2, ()))) :=
  (f59t0 N c0 (finK tab f59sig Try.f59.results.toList)).trans (by kernel_rfl)
theorem f59ok (h : impl_coefOk.Spec) : EntryOk Try.prog 59 e59 :=
  entry_of_code (sig := f59sig) (c := f59c0) (pl := .n) (je := (some f59lE)) (B := f59B) Try.func59 (by kernel_rfl) (by kernel_rfl) (by kernel_rfl) tabOk f59GOk (by kernel_rfl) (by kernel_rfl) (by kernel_rfl) (by kernel_rfl) fun X hb hp => by
    obtain ⟨c0, _⟩ := X
    obtain ⟨N, h⟩ := h c0
    exact ⟨N, (f59m N c0).trans (h N (Nat.le_refl N))⟩
theorem e59ok : EntryOk Try.prog 59 e59 := f59ok impl_coefOk.ok
end Go.Fw
set_option linter.unusedVariables false
set_option linter.unusedSimpArgs false
set_option maxRecDepth 100000
namespace Go.Fw
open Go.Proofs
/-! ### cmp.isNaN[int] -/
noncomputable def f91sig : Sig := ⟨[⟨.int .i64, false, false⟩], [⟨.bool, false, false⟩]⟩
noncomputable def e91 : Entry := ⟨f91sig, none, fun X => ((), ((cmp_isNaN_int.g X.1), ()))⟩
noncomputable def f91G : Nat → Option Entry := (fun _ => none)
theorem f91GOk : GOk Try.prog f91G := GOk.nil
noncomputable def f91lE : Clean := ⟨[], [], [], [], []⟩
noncomputable def f91s0 (x0 : Int) : St := initSt f91sig.ps (x0, ())
noncomputable def f91s1 (t2 : Bool) : St := stOf [(2, .c (.bool t2))] [] []
noncomputable def f91l1 : Clean := ⟨[2], [], [], [], []⟩
noncomputable def f91B : Nat → Option Clean := lookL [(1000000, f91l1)]
noncomputable abbrev f91i {ρ : Type} (N : Nat) (c : Code) (p : Plan) (σ : St) (K : KT ρ) : Option ρ := iCode f91G tab f91B N c p σ K
noncomputable def f91c0 := codeAt (bodyOf Try.f91) []
theorem f91t0 {ρ : Type} (N : Nat) (x0 : Int) (K : KT ρ) : f91i N f91c0 .n (f91s0 x0) (joinK (some f91lE) K) =
  cmp_isNaN_int.Z0 N x0 (fun t2 => K .ret (f91s1 t2)) := by kernel_rfl
theorem f91m (N : Nat) (x0 : Int) : f91i N f91c0 .n (f91s0 x0) (joinK (some f91lE) (finK tab f91sig Try.f91.results.toList)) = cmp_isNaN_int.Z0 N x0 (fun t2 => some ((), (t2, ()))) :=
  (f91t0 N x0 (finK tab f91sig Try.f91.results.toList)).trans (by kernel_rfl)
theorem f91ok (h : cmp_isNaN_int.Spec) : EntryOk Try.prog 91 e91 :=
  entry_of_code (sig := f91sig) (c := f91c0) (pl := .n) (je := (some f91lE)) (B := f91B) Try.func91 (by kernel_rfl) (by kernel_rfl) (by kernel_rfl) tabOk f91GOk (by kernel_rfl) (by kernel_rfl) (by kernel_rfl) (by kernel_rfl) fun X hb hp => by
    obtain ⟨x0, _⟩ := X
    obtain ⟨N, h⟩ := h x0
    exact ⟨N, (f91m N x0).trans (h N (Nat.le_refl N))⟩
theorem e91ok : EntryOk Try.prog 91 e91 := f91ok cmp_isNaN_int.ok
end Go.Fw
set_option linter.unusedVariables false
set_option linter.unusedSimpArgs false
set_option maxRecDepth 100000
namespace Go.Fw
open Go.Proofs
/-! ### cmp.Compare[int] -/
noncomputable def f83sig : Sig := ⟨[⟨.int .i64, false, false⟩, ⟨.int .i64, false, false⟩], [⟨.int .i64, false, false⟩]⟩
noncomputable def e83 : Entry := ⟨f83sig, none, fun X => ((), ((cmp_Compare_int.g X.1 X.2.1), ()))⟩
noncomputable def f83G : Nat → Option Entry := addG (fun _ => none) 91 e91
theorem f83GOk : GOk Try.prog f83G := (GOk.nil).add e91ok (by kernel_rfl)
noncomputable def f83lE : Clean := ⟨[], [], [], [], []⟩
noncomputable def f83s0 (x0 : Int) (y1 : Int) : St := initSt f83sig.ps (x0, (y1, ()))
noncomputable def f83s1 (t4 : Int) : St := stOf [(4, .c (.int .i64 t4))] [] []
noncomputable def f83l1 : Clean := ⟨[4], [], [], [], []⟩
noncomputable def f83B : Nat → Option Clean := lookL [(1000000, f83l1)]
noncomputable abbrev f83i {ρ : Type} (N : Nat) (c : Code) (p : Plan) (σ : St) (K : KT ρ) : Option ρ := iCode f83G tab f83B N c p σ K
noncomputable def f83c0 := codeAt (bodyOf Try.f83) []
theorem f83t0 {ρ : Type} (N : Nat) (x0 : Int) (y1 : Int) (K : KT ρ) : f83i N f83c0 .n (f83s0 x0 y1) (joinK (some f83lE) K) =
  cmp_Compare_int.Z0 N x0 y1 (fun t4 => K .ret (f83s1 t4)) := by kernel_rfl
theorem f83m (N : Nat) (x0 : Int) (y1 : Int) : f83i N f83c0 .n (f83s0 x0 y1) (joinK (some f83lE) (finK tab f83sig Try.f83.results.toList)) = cmp_Compare_int.Z0 N x0 y1 (fun t4 => some ((), (t4, ()))) :=
  (f83t0 N x0 y1 (finK tab f83sig Try.f83.results.toList)).trans (by kernel_rfl)
theorem f83ok (h : cmp_Compare_int.Spec) : EntryOk Try.prog 83 e83 :=
  entry_of_code (sig := f83sig) (c := f83c0) (pl := .n) (je := (some f83lE)) (B := f83B) Try.func83 (by kernel_rfl) (by kernel_rfl) (by kernel_rfl) tabOk f83GOk (by kernel_rfl) (by kernel_rfl) (by kernel_rfl) (by kernel_rfl) fun X hb hp => by
    obtain ⟨x0, y1, _⟩ := X
    obtain ⟨N, h⟩ := h x0 y1
    exact ⟨N, (f83m N x0 y1).trans (h N (Nat.le_refl N))⟩
theorem e83ok : EntryOk Try.prog 83 e83 := f83ok cmp_Compare_int.ok
end Go.Fw
set_option linter.unusedVariables false
set_option linter.unusedSimpArgs false
set_option maxRecDepth 100000
namespace Go.Fw
open Go.Proofs
/-! ### slices.Compare[[]int,int] -/
noncomputable def f60sig : Sig := ⟨[⟨.sl 3 (.int .i64), false, false⟩, ⟨.sl 3 (.int .i64), false, false⟩], [⟨.int .i64, false, false⟩]⟩
noncomputable def e60 : Entry := ⟨f60sig, none, fun X => ((), ((slices_Compare_int_int.g X.1 X.2.1), ()))⟩
noncomputable def f60G : Nat → Option Entry := addG (fun _ => none) 83 e83
theorem f60GOk : GOk Try.prog f60G := (GOk.nil).add e83ok (by kernel_rfl)
noncomputable def f60lE : Clean := ⟨[], [], [], [], []⟩
noncomputable def f60s0 (s10 : List Int) (s21 : List Int) : St := initSt f60sig.ps (s10, (s21, ()))
noncomputable def f60s1 (s10 : List Int) (s21 : List Int) : St := stOf [(0, .c (.sn 3 (.int .i64) s10 none)), (1, .c (.sn 3 (.int .i64) s21 none))] [] []
noncomputable def f60l1 : Clean := ⟨[0, 1], [], [], [], []⟩
noncomputable def f60s2 (s10 : List Int) (s21 : List Int) (t9 : List Int) (t10 : Int) (t11 : Int) : St := stOf [(0, .c (.sn 3 (.int .i64) s10 none)), (1, .c (.sn 3 (.int .i64) s21 none)), (9, .c (.sn 3 (.int .i64) t9 none)), (10, .c (.int .i64 t10)), (11, .c (.int .i64 t11))] [] []
noncomputable def f60l2 : Clean := ⟨[0, 1, 9, 10, 11], [], [], [], []⟩
noncomputable def f60s3 (t4 : Int) : St := stOf [(4, .c (.int .i64 t4))] [] []
noncomputable def f60l3 : Clean := ⟨[4], [], [], [], []⟩
noncomputable def f60B : Nat → Option Clean := lookL [(0, f60l1), (1000000, f60l3)]
noncomputable abbrev f60i {ρ : Type} (N : Nat) (c : Code) (p : Plan) (σ : St) (K : KT ρ) : Option ρ := iCode f60G tab f60B N c p σ K
noncomputable def f60c1 := codeAt (bodyOf Try.f60) [0]
theorem f60t1 {ρ : Type} (N : Nat) (s10 : List Int) (s21 : List Int) (K : KT ρ) : f60i N f60c1 .n (f60s0 s10 s21) (joinK (some f60l1) K) =
  slices_Compare_int_int.Z1 N s10 s21 (fun s10 s21 => K .nrm (f60s1 s10 s21)) := by kernel_rfl
noncomputable def f60c4 := codeAt (bodyOf Try.f60) [1,0,0]
theorem f60t4 {ρ : Type} (N : Nat) (s10 : List Int) (s21 : List Int) (K : KT ρ) : f60i N f60c4 .n (f60s1 s10 s21) (joinK (some f60l2) K) =
  slices_Compare_int_int.Z4 N s10 s21 (fun s10 s21 t9 t10 t11 => K .nrm (f60s2 s10 s21 t9 t10 t11)) := by kernel_rfl
noncomputable def f60c7 := codeAt (bodyOf Try.f60) [1,0,1,0,0]
theorem f60t7 {ρ : Type} (N : Nat) (s10 : List Int) (s21 : List Int) (t9 : List Int) (t10 : Int) (t11 : Int) (K : KT ρ) : f60i N f60c7 .n (f60s2 s10 s21 t9 t10 t11) (joinK (some f60l2) K) =
  slices_Compare_int_int.Z7 N s10 s21 t9 t10 t11 (fun s10 s21 t9 t10 t11 => K .nrm (f60s2 s10 s21 t9 t10 t11)) (fun s10 s21 => K (.exit 0) (f60s1 s10 s21)) (fun t4 => K .ret (f60s3 t4)) := by kernel_rfl
noncomputable def f60c6 := codeAt (bodyOf Try.f60) [1,0,1,0]
noncomputable def f60p6 : Plan := .mk none (some f60l2) .n .n
noncomputable abbrev f60w6 {ρ : Type} (N : Nat) (M : Nat) (σ : St) (K : KT ρ) : Option ρ := loopC (fun σ K => f60i N f60c7 .n σ K) f60l2 M σ K
theorem f60t6L {ρ : Type} (N : Nat) (K : KT ρ) : ∀ (M : Nat) (s10 : List Int) (s21 : List Int) (t9 : List Int) (t10 : Int) (t11 : Int), f60w6 N M (f60s2 s10 s21 t9 t10 t11) K =
  slices_Compare_int_int.Z6L N (fun s10 s21 => K (.exit 0) (f60s1 s10 s21)) (fun t4 => K .ret (f60s3 t4)) M s10 s21 t9 t10 t11
  | 0, _, _, _, _, _ => rfl
  | M + 1, s10, s21, t9, t10, t11 => viaRound (fun k => slices_Compare_int_int.Z7 N s10 s21 t9 t10 t11 k (fun s10 s21 => K (.exit 0) (f60s1 s10 s21)) (fun t4 => K .ret (f60s3 t4))) (f60t7 N s10 s21 t9 t10 t11 (seqK (fun σ => f60w6 N M σ K) K)) (funext fun s10 => funext fun s21 => funext fun t9 => funext fun t10 => funext fun t11 => f60t6L N K M s10 s21 t9 t10 t11) (by kernel_rfl) (by kernel_rfl)
theorem f60t6 {ρ : Type} (N : Nat) (s10 : List Int) (s21 : List Int) (t9 : List Int) (t10 : Int) (t11 : Int) (K : KT ρ) : f60i N f60c6 f60p6 (f60s2 s10 s21 t9 t10 t11) (joinK (some f60l1) K) =
  slices_Compare_int_int.Z6 N s10 s21 t9 t10 t11 (fun s10 s21 => K (.exit 0) (f60s1 s10 s21)) (fun t4 => K .ret (f60s3 t4)) :=
  viaLoop (by kernel_rfl) (by kernel_rfl) (σ' := f60s2 s10 s21 t9 t10 t11) (by kernel_rfl) (f60t6L N (joinK (some f60l1) K) N s10 s21 t9 t10 t11) (by kernel_rfl)
noncomputable def f60c5 := codeAt (bodyOf Try.f60) [1,0,1]
noncomputable def f60p5 : Plan := .mk (some f60l1) none f60p6 .n
theorem f60t5 {ρ : Type} (N : Nat) (s10 : List Int) (s21 : List Int) (t9 : List Int) (t10 : Int) (t11 : Int) (K : KT ρ) : f60i N f60c5 f60p5 (f60s2 s10 s21 t9 t10 t11) (joinK (some f60l1) K) =
  slices_Compare_int_int.Z5 N s10 s21 t9 t10 t11 (fun s10 s21 => K .nrm (f60s1 s10 s21)) (fun t4 => K .ret (f60s3 t4)) :=
  viaBlock (by kernel_rfl) (by kernel_rfl) (f60t6 N s10 s21 t9 t10 t11 (blockK 0 (joinK (some f60l1) K))) (by kernel_rfl)
noncomputable def f60c3 := codeAt (bodyOf Try.f60) [1,0]
noncomputable def f60p3 : Plan := .mk (some f60l2) none .n f60p5
theorem f60t3 {ρ : Type} (N : Nat) (s10 : List Int) (s21 : List Int) (K : KT ρ) : f60i N f60c3 f60p3 (f60s1 s10 s21) (joinK (some f60l1) K) =
  slices_Compare_int_int.Z3 N s10 s21 (fun s10 s21 => K .nrm (f60s1 s10 s21)) (fun t4 => K .ret (f60s3 t4)) :=
  viaSeq (fun k => slices_Compare_int_int.Z4 N s10 s21 k) (by kernel_rfl) (by kernel_rfl) (f60t4 N s10 s21 (seqK (fun σ => f60i N f60c5 f60p5 σ (joinK (some f60l1) K)) (joinK (some f60l1) K))) (funext fun s10 => funext fun s21 => funext fun t9 => funext fun t10 => funext fun t11 => f60t5 N s10 s21 t9 t10 t11 K) (by kernel_rfl) (by kernel_rfl)
noncomputable def f60c8 := codeAt (bodyOf Try.f60) [1,1]
theorem f60t8 {ρ : Type} (N : Nat) (s10 : List Int) (s21 : List Int) (K : KT ρ) : f60i N f60c8 .n (f60s1 s10 s21) (joinK (some f60lE) K) =
  slices_Compare_int_int.Z8 N s10 s21 (fun t4 => K .ret (f60s3 t4)) := by kernel_rfl
noncomputable def f60c2 := codeAt (bodyOf Try.f60) [1]
noncomputable def f60p2 : Plan := .mk (some f60l1) none f60p3 .n
theorem f60t2 {ρ : Type} (N : Nat) (s10 : List Int) (s21 : List Int) (K : KT ρ) : f60i N f60c2 f60p2 (f60s1 s10 s21) (joinK (some f60lE) K) =
  slices_Compare_int_int.Z2 N s10 s21 (fun t4 => K .ret (f60s3 t4)) :=
  viaSeq (fun k => slices_Compare_int_int.Z3 N s10 s21 k (fun t4 => K .ret (f60s3 t4))) (by kernel_rfl) (by kernel_rfl) (f60t3 N s10 s21 (seqK (fun σ => f60i N f60c8 .n σ (joinK (some f60lE) K)) (joinK (some f60lE) K))) (funext fun s10 => funext fun s21 => f60t8 N s10 s21 K) (by kernel_rfl) (by kernel_rfl)
noncomputable def f60c0 := codeAt (bodyOf Try.f60) []
noncomputable def f60p0 : Plan := .mk (some f60l1) none .n f60p2
theorem f60t0 {ρ : Type} (N : Nat) (s10 : List Int) (s21 : List Int) (K : KT ρ) : f60i N f60c0 f60p0 (f60s0 s10 s21) (joinK (some f60lE) K) =
  slices_Compare_int_int.Z0 N s10 s21 (fun t4 => K .ret (f60s3 t4)) :=
  viaSeq (fun k => slices_Compare_int_int.Z1 N s10 s21 k) (by kernel_rfl) (by kernel_rfl) (f60t1 N s10 s21 (seqK (fun σ => f60i N f60c2 f60p2 σ (joinK (some f60lE) K)) (joinK (some f60lE) K))) (funext fun s10 => funext fun s21 => f60t2 N s10 s21 K) (by kernel_rfl) (by kernel_rfl)
theorem f60m (N : Nat) (s10 : List Int) (s21 : List Int) : f60i N f60c0 f60p0 (f60s0 s10 s21) (joinK (some f60lE) (finK tab f60sig Try.f60.results.toList)) = slices_Compare_int_int.Z0 N s10 s21 (fun t4 => some ((), (t4, ()))) :=
  (f60t0 N s10 s21 (finK tab f60sig Try.f60.results.toList)).trans (by kernel_rfl)
theorem f60ok (h : slices_Compare_int_int.Spec) : EntryOk Try.prog 60 e60 :=
  entry_of_code (sig := f60sig) (c := f60c0) (pl := f60p0) (je := (some f60lE)) (B := f60B) Try.func60 (by kernel_rfl) (by kernel_rfl) (by kernel_rfl) tabOk f60GOk (by kernel_rfl) (by kernel_rfl) (by kernel_rfl) (by kernel_rfl) fun X hb hp => by
    obtain ⟨s10, s21, _⟩ := X
    obtain ⟨N, h⟩ := h s10 s21 hb.1 hb.2.1
    exact ⟨N, (f60m N s10 s21).trans (h N (Nat.le_refl N))⟩
theorem e60ok : EntryOk Try.prog 60 e60 := f60ok slices_Compare_int_int.ok
end Go.Fw
set_option linter.unusedVariables false
set_option linter.unusedSimpArgs false
set_option maxRecDepth 100000
namespace Go.Fw
open Go.Proofs
/-! ### loop.example/g03115/impl.LaurentOk -/
noncomputable def f27sig : Sig := ⟨[⟨.pair (.int .i64) (.sl 59 (.pair (.sl 3 (.int .i64)) (.int .i64))), true, false⟩], [⟨.bool, false, false⟩]⟩
noncomputable def e27 : Entry := ⟨f27sig, none, fun X => ((), ((impl_LaurentOk.g X.1), ()))⟩
noncomputable def f27G : Nat → Option Entry := addG (addG (addG (addG (fun _ => none) 49 e49) 55 e55) 59 e59) 60 e60
theorem f27GOk : GOk Try.prog f27G := ((((GOk.nil).add e49ok (by kernel_rfl)).add e55ok (by kernel_rfl)).add e59ok (by kernel_rfl)).add e60ok (by kernel_rfl)
noncomputable def f27lE : Clean := ⟨[], [], [], [], []⟩
noncomputable def f27s0 (f0 : Int × List (List Int × Int)) : St := initSt f27sig.ps (f0, ())
noncomputable def f27s1 (f1_0 : Int) (f1_1 : List (List Int × Int)) : St := stOf [(1, .c (.box 1 0))] [(1, (25, [.int .i64 f1_0, .sn 59 (.pair (.sl 3 (.int .i64)) (.int .i64)) f1_1 none]))] []
noncomputable def f27l1 : Clean := ⟨[1], [1], [], [], []⟩
noncomputable def f27s2 (t16 : List (List Int × Int)) (t17 : Int) (t18 : Int) (f1_0 : Int) (f1_1 : List (List Int × Int)) : St := stOf [(1, .c (.box 1 0)), (16, .c (.sn 59 (.pair (.sl 3 (.int .i64)) (.int .i64)) t16 none)), (17, .c (.int .i64 t17)), (18, .c (.int .i64 t18))] [(1, (25, [.int .i64 f1_0, .sn 59 (.pair (.sl 3 (.int .i64)) (.int .i64)) f1_1 none]))] []
noncomputable def f27l2 : Clean := ⟨[1, 16, 17, 18], [1], [], [], []⟩
noncomputable def f27s3  : St := stOf [] [] []
noncomputable def f27l3 : Clean := ⟨[], [], [], [], []⟩
noncomputable def f27s4 (t2 : Bool) : St := stOf [(2, .c (.bool t2))] [] []
noncomputable def f27l4 : Clean := ⟨[2], [], [], [], []⟩
noncomputable def f27B : Nat → Option Clean := lookL [(0, f27l3), (1000000, f27l4)]
noncomputable abbrev f27i {ρ : Type} (N : Nat) (c : Code) (p : Plan) (σ : St) (K : KT ρ) : Option ρ := iCode f27G tab f27B N c p σ K
noncomputable def f27c1 := codeAt (bodyOf Try.f27) [0]
theorem f27t1 {ρ : Type} (N : Nat) (f0 : Int × List (List Int × Int)) (K : KT ρ) : f27i N f27c1 .n (f27s0 f0) (joinK (some f27l1) K) =
  impl_LaurentOk.Z1 N f0 (fun f1_0 f1_1 => K .nrm (f27s1 f1_0 f1_1)) := by kernel_rfl
noncomputable def f27c3 := codeAt (bodyOf Try.f27) [1,0]
theorem f27t3 {ρ : Type} (N : Nat) (f1_0 : Int) (f1_1 : List (List Int × Int)) (K : KT ρ) : f27i N f27c3 .n (f27s1 f1_0 f1_1) (joinK (some f27l1) K) =
  impl_LaurentOk.Z3 N f1_0 f1_1 (fun f1_0 f1_1 => K .nrm (f27s1 f1_0 f1_1)) (fun t2 => K .ret (f27s4 t2)) := by kernel_rfl
noncomputable def f27c6 := codeAt (bodyOf Try.f27) [1,1,0,0]
theorem f27t6 {ρ : Type} (N : Nat) (f1_0 : Int) (f1_1 : List (List Int × Int)) (K : KT ρ) : f27i N f27c6 .n (f27s1 f1_0 f1_1) (joinK (some f27l2) K) =
  impl_LaurentOk.Z6 N f1_0 f1_1 (fun t16 t17 t18 f1_0 f1_1 => K .nrm (f27s2 t16 t17 t18 f1_0 f1_1)) := by kernel_rfl
noncomputable def f27c9 := codeAt (bodyOf Try.f27) [1,1,0,1,0,0]
theorem f27t9 {ρ : Type} (N : Nat) (t16 : List (List Int × Int)) (t17 : Int) (t18 : Int) (f1_0 : Int) (f1_1 : List (List Int × Int)) (K : KT ρ) : f27i N f27c9 .n (f27s2 t16 t17 t18 f1_0 f1_1) (joinK (some f27l2) K) =
  impl_LaurentOk.Z9 N t16 t17 t18 f1_0 f1_1 (fun t16 t17 t18 f1_0 f1_1 => K .nrm (f27s2 t16 t17 t18 f1_0 f1_1)) (K (.exit 0) f27s3) (fun t2 => K .ret (f27s4 t2)) := by kernel_rfl
noncomputable def f27c8 := codeAt (bodyOf Try.f27) [1,1,0,1,0]
noncomputable def f27p8 : Plan := .mk none (some f27l2) .n .n
noncomputable abbrev f27w8 {ρ : Type} (N : Nat) (M : Nat) (σ : St) (K : KT ρ) : Option ρ := loopC (fun σ K => f27i N f27c9 .n σ K) f27l2 M σ K
theorem f27t8L {ρ : Type} (N : Nat) (K : KT ρ) : ∀ (M : Nat) (t16 : List (List Int × Int)) (t17 : Int) (t18 : Int) (f1_0 : Int) (f1_1 : List (List Int × Int)), f27w8 N M (f27s2 t16 t17 t18 f1_0 f1_1) K =
  impl_LaurentOk.Z8L N (K (.exit 0) f27s3) (fun t2 => K .ret (f27s4 t2)) M t16 t17 t18 f1_0 f1_1
  | 0, _, _, _, _, _ => rfl
  | M + 1, t16, t17, t18, f1_0, f1_1 => viaRound (fun k => impl_LaurentOk.Z9 N t16 t17 t18 f1_0 f1_1 k (K (.exit 0) f27s3) (fun t2 => K .ret (f27s4 t2))) (f27t9 N t16 t17 t18 f1_0 f1_1 (seqK (fun σ => f27w8 N M σ K) K)) (funext fun t16 => funext fun t17 => funext fun t18 => funext fun f1_0 => funext fun f1_1 => f27t8L N K M t16 t17 t18 f1_0 f1_1) (by kernel_rfl) (by kernel_rfl)
theorem f27t8 {ρ : Type} (N : Nat) (t16 : List (List Int × Int)) (t17 : Int) (t18 : Int) (f1_0 : Int) (f1_1 : List (List Int × Int)) (K : KT ρ) : f27i N f27c8 f27p8 (f27s2 t16 t17 t18 f1_0 f1_1) (joinK (some f27l3) K) =
  impl_LaurentOk.Z8 N t16 t17 t18 f1_0 f1_1 (K (.exit 0) f27s3) (fun t2 => K .ret (f27s4 t2)) :=
  viaLoop (by kernel_rfl) (by kernel_rfl) (σ' := f27s2 t16 t17 t18 f1_0 f1_1) (by kernel_rfl) (f27t8L N (joinK (some f27l3) K) N t16 t17 t18 f1_0 f1_1) (by kernel_rfl)
noncomputable def f27c7 := codeAt (bodyOf Try.f27) [1,1,0,1]
noncomputable def f27p7 : Plan := .mk (some f27l3) none f27p8 .n
theorem f27t7 {ρ : Type} (N : Nat) (t16 : List (List Int × Int)) (t17 : Int) (t18 : Int) (f1_0 : Int) (f1_1 : List (List Int × Int)) (K : KT ρ) : f27i N f27c7 f27p7 (f27s2 t16 t17 t18 f1_0 f1_1) (joinK (some f27l3) K) =
  impl_LaurentOk.Z7 N t16 t17 t18 f1_0 f1_1 (K .nrm f27s3) (fun t2 => K .ret (f27s4 t2)) :=
  viaBlock (by kernel_rfl) (by kernel_rfl) (f27t8 N t16 t17 t18 f1_0 f1_1 (blockK 0 (joinK (some f27l3) K))) (by kernel_rfl)
noncomputable def f27c5 := codeAt (bodyOf Try.f27) [1,1,0]
noncomputable def f27p5 : Plan := .mk (some f27l2) none .n f27p7
theorem f27t5 {ρ : Type} (N : Nat) (f1_0 : Int) (f1_1 : List (List Int × Int)) (K : KT ρ) : f27i N f27c5 f27p5 (f27s1 f1_0 f1_1) (joinK (some f27l3) K) =
  impl_LaurentOk.Z5 N f1_0 f1_1 (K .nrm f27s3) (fun t2 => K .ret (f27s4 t2)) :=
  viaSeq (fun k => impl_LaurentOk.Z6 N f1_0 f1_1 k) (by kernel_rfl) (by kernel_rfl) (f27t6 N f1_0 f1_1 (seqK (fun σ => f27i N f27c7 f27p7 σ (joinK (some f27l3) K)) (joinK (some f27l3) K))) (funext fun t16 => funext fun t17 => funext fun t18 => funext fun f1_0 => funext fun f1_1 => f27t7 N t16 t17 t18 f1_0 f1_1 K) (by kernel_rfl) (by kernel_rfl)
noncomputable def f27c10 := codeAt (bodyOf Try.f27) [1,1,1]
theorem f27t10 {ρ : Type} (N : Nat)  (K : KT ρ) : f27i N f27c10 .n f27s3 (joinK (some f27lE) K) =
  impl_LaurentOk.Z10 N (fun t2 => K .ret (f27s4 t2)) := by kernel_rfl
noncomputable def f27c4 := codeAt (bodyOf Try.f27) [1,1]
noncomputable def f27p4 : Plan := .mk (some f27l3) none f27p5 .n
theorem f27t4 {ρ : Type} (N : Nat) (f1_0 : Int) (f1_1 : List (List Int × Int)) (K : KT ρ) : f27i N f27c4 f27p4 (f27s1 f1_0 f1_1) (joinK (some f27lE) K) =
  impl_LaurentOk.Z4 N f1_0 f1_1 (fun t2 => K .ret (f27s4 t2)) :=
  viaSeq (fun k => impl_LaurentOk.Z5 N f1_0 f1_1 k (fun t2 => K .ret (f27s4 t2))) (by kernel_rfl) (by kernel_rfl) (f27t5 N f1_0 f1_1 (seqK (fun σ => f27i N f27c10 .n σ (joinK (some f27lE) K)) (joinK (some f27lE) K))) (f27t10 N K) (by kernel_rfl) (by kernel_rfl)
noncomputable def f27c2 := codeAt (bodyOf Try.f27) [1]
noncomputable def f27p2 : Plan := .mk (some f27l1) none .n f27p4
theorem f27t2 {ρ : Type} (N : Nat) (f1_0 : Int) (f1_1 : List (List Int × Int)) (K : KT ρ) : f27i N f27c2 f27p2 (f27s1 f1_0 f1_1) (joinK (some f27lE) K) =
  impl_LaurentOk.Z2 N f1_0 f1_1 (fun t2 => K .ret (f27s4 t2)) :=
  viaSeq (fun k => impl_LaurentOk.Z3 N f1_0 f1_1 k (fun t2 => K .ret (f27s4 t2))) (by kernel_rfl) (by kernel_rfl) (f27t3 N f1_0 f1_1 (seqK (fun σ => f27i N f27c4 f27p4 σ (joinK (some f27lE) K)) (joinK (some f27lE) K))) (funext fun f1_0 => funext fun f1_1 => f27t4 N f1_0 f1_1 K) (by kernel_rfl) (by kernel_rfl)
noncomputable def f27c0 := codeAt (bodyOf Try.f27) []
noncomputable def f27p0 : Plan := .mk (some f27l1) none .n f27p2
theorem f27t0 {ρ : Type} (N : Nat) (f0 : Int × List (List Int × Int)) (K : KT ρ) : f27i N f27c0 f27p0 (f27s0 f0) (joinK (some f27lE) K) =
  impl_LaurentOk.Z0 N f0 (fun t2 => K .ret (f27s4 t2)) :=
  viaSeq (fun k => impl_LaurentOk.Z1 N f0 k) (by kernel_rfl) (by kernel_rfl) (f27t1 N f0 (seqK (fun σ => f27i N f27c2 f27p2 σ (joinK (some f27lE) K)) (joinK (some f27lE) K))) (funext fun f1_0 => funext fun f1_1 => f27t2 N f1_0 f1_1 K) (by kernel_rfl) (by kernel_rfl)
theorem f27m (N : Nat) (f0 : Int × List (List Int × Int)) : f27i N f27c0 f27p0 (f27s0 f0) (joinK (some f27lE) (finK tab f27sig Try.f27.results.toList)) = impl_LaurentOk.Z0 N f0 (fun t2 => some ((), (t2, ()))) :=
  (f27t0 N f0 (finK tab f27sig Try.f27.results.toList)).trans (by kernel_rfl)
theorem f27ok (h : impl_LaurentOk.Spec) : EntryOk Try.prog 27 e27 :=
  entry_of_code (sig := f27sig) (c := f27c0) (pl := f27p0) (je := (some f27lE)) (B := f27B) Try.func27 (by kernel_rfl) (by kernel_rfl) (by kernel_rfl) tabOk f27GOk (by kernel_rfl) (by kernel_rfl) (by kernel_rfl) (by kernel_rfl) fun X hb hp => by
    obtain ⟨f0, _⟩ := X
    obtain ⟨N, h⟩ := h f0 hb.1
    exact ⟨N, (f27m N f0).trans (h N (Nat.le_refl N))⟩
theorem e27ok : EntryOk Try.prog 27 e27 := f27ok impl_LaurentOk.ok
end Go.Fw
set_option linter.unusedVariables false
set_option linter.unusedSimpArgs false
set_option maxRecDepth 100000
namespace Go.Fw
open Go.Proofs
/-! ### loop.example/g03115/impl.DenominatorOf -/
noncomputable def f42sig : Sig := ⟨[⟨.pair (.int .i64) (.sl 59 (.pair (.sl 3 (.int .i64)) (.int .i64))), true, false⟩], [⟨.sl 3 (.int .i64), false, false⟩]⟩
noncomputable def e42 : Entry := ⟨f42sig, none, fun X => ((), ((impl_DenominatorOf.g X.1), ()))⟩
noncomputable def f42G : Nat → Option Entry := addG (fun _ => none) 27 e27
theorem f42GOk : GOk Try.prog f42G := (GOk.nil).add e27ok (by kernel_rfl)
noncomputable def f42lE : Clean := ⟨[], [], [], [], []⟩
noncomputable def f42s0 (f0 : Int × List (List Int × Int)) : St := initSt f42sig.ps (f0, ())
noncomputable def f42s1 (f1_0 : Int) (f1_1 : List (List Int × Int)) : St := stOf [(1, .c (.box 1 0))] [(1, (25, [.int .i64 f1_0, .sn 59 (.pair (.sl 3 (.int .i64)) (.int .i64)) f1_1 none]))] []
noncomputable def f42l1 : Clean := ⟨[1], [1], [], [], []⟩
noncomputable def f42s2 (out3 : List Int) (f1_0 : Int) (f1_1 : List (List Int × Int)) : St := stOf [(1, .c (.box 1 0)), (3, .c (.own 1000192))] [(1, (25, [.int .i64 f1_0, .sn 59 (.pair (.sl 3 (.int .i64)) (.int .i64)) f1_1 none]))] [(1000192, (⟨3, .int .i64, out3, true, false⟩ : Row))]
noncomputable def f42l2 : Clean := ⟨[1, 3], [1], [], [], [(⟨false, 3, 0⟩, 1000192)]⟩
noncomputable def f42s3 (out3 : List Int) (t21 : Int) (t22 : Int) (f1_0 : Int) (f1_1 : List (List Int × Int)) : St := stOf [(1, .c (.box 1 0)), (3, .c (.own 1000192)), (21, .c (.int .i64 t21)), (22, .c (.int .i64 t22))] [(1, (25, [.int .i64 f1_0, .sn 59 (.pair (.sl 3 (.int .i64)) (.int .i64)) f1_1 none]))] [(1000192, (⟨3, .int .i64, out3, true, false⟩ : Row))]
noncomputable def f42l3 : Clean := ⟨[1, 3, 21, 22], [1], [], [], [(⟨false, 3, 0⟩, 1000192)]⟩
noncomputable def f42s4 (out3 : List Int) (t21 : Int) (t22 : Int) (t23 : Bool) (f1_0 : Int) (f1_1 : List (List Int × Int)) : St := stOf [(1, .c (.box 1 0)), (3, .c (.own 1000192)), (21, .c (.int .i64 t21)), (22, .c (.int .i64 t22)), (23, .c (.bool t23))] [(1, (25, [.int .i64 f1_0, .sn 59 (.pair (.sl 3 (.int .i64)) (.int .i64)) f1_1 none]))] [(1000192, (⟨3, .int .i64, out3, true, false⟩ : Row))]
noncomputable def f42l4 : Clean := ⟨[1, 3, 21, 22, 23], [1], [], [], [(⟨false, 3, 0⟩, 1000192)]⟩
noncomputable def f42s5 (out3 : List Int) (i4 : Int) (t21 : Int) (t22 : Int) (f1_0 : Int) (f1_1 : List (List Int × Int)) : St := stOf [(1, .c (.box 1 0)), (3, .c (.own 1000192)), (4, .c (.int .i64 i4)), (21, .c (.int .i64 t21)), (22, .c (.int .i64 t22))] [(1, (25, [.int .i64 f1_0, .sn 59 (.pair (.sl 3 (.int .i64)) (.int .i64)) f1_1 none]))] [(1000192, (⟨3, .int .i64, out3, true, false⟩ : Row))]
noncomputable def f42l5 : Clean := ⟨[1, 3, 4, 21, 22], [1], [], [], [(⟨false, 3, 0⟩, 1000192)]⟩
noncomputable def f42s6 (out3 : List Int) (i4 : Int) (least5 : Int) (t21 : Int) (t22 : Int) (f1_0 : Int) (f1_1 : List (List Int × Int)) : St := stOf [(1, .c (.box 1 0)), (3, .c (.own 1000192)), (4, .c (.int .i64 i4)), (5, .c (.int .i64 least5)), (21, .c (.int .i64 t21)), (22, .c (.int .i64 t22))] [(1, (25, [.int .i64 f1_0, .sn 59 (.pair (.sl 3 (.int .i64)) (.int .i64)) f1_1 none]))] [(1000192, (⟨3, .int .i64, out3, true, false⟩ : Row))]
noncomputable def f42l6 : Clean := ⟨[1, 3, 4, 5, 21, 22], [1], [], [], [(⟨false, 3, 0⟩, 1000192)]⟩
noncomputable def f42s7 (out3 : List Int) (i4 : Int) (least5 : Int) (t21 : Int) (t22 : Int) (t26 : List (List Int × Int)) (t27 : Int) (t28 : Int) (f1_0 : Int) (f1_1 : List (List Int × Int)) : St := stOf [(1, .c (.box 1 0)), (3, .c (.own 1000192)), (4, .c (.int .i64 i4)), (5, .c (.int .i64 least5)), (21, .c (.int .i64 t21)), (22, .c (.int .i64 t22)), (26, .c (.sn 59 (.pair (.sl 3 (.int .i64)) (.int .i64)) t26 none)), (27, .c (.int .i64 t27)), (28, .c (.int .i64 t28))] [(1, (25, [.int .i64 f1_0, .sn 59 (.pair (.sl 3 (.int .i64)) (.int .i64)) f1_1 none]))] [(1000192, (⟨3, .int .i64, out3, true, false⟩ : Row))]
noncomputable def f42l7 : Clean := ⟨[1, 3, 4, 5, 21, 22, 26, 27, 28], [1], [], [], [(⟨false, 3, 0⟩, 1000192)]⟩
noncomputable def f42s8 (out3 : List Int) : St := stOf [(3, .c (.own 1000192))] [] [(1000192, (⟨3, .int .i64, out3, true, false⟩ : Row))]
noncomputable def f42l8 : Clean := ⟨[3], [], [], [], [(⟨false, 3, 0⟩, 1000192)]⟩
noncomputable def f42s9 (t2 : List Int) : St := stOf [(2, .c (.own 1000128))] [] [(1000128, (⟨3, .int .i64, t2, true, false⟩ : Row))]
noncomputable def f42l9 : Clean := ⟨[2], [], [⟨⟨false, 2, 0⟩, 30000000, 3, .int .i64, true⟩], [], [(⟨false, 2, 0⟩, 1000128)]⟩
noncomputable def f42B : Nat → Option Clean := lookL [(2, f42l6), (1, f42l3), (0, f42l8), (1000000, f42l9)]
noncomputable abbrev f42i {ρ : Type} (N : Nat) (c : Code) (p : Plan) (σ : St) (K : KT ρ) : Option ρ := iCode f42G tab f42B N c p σ K
noncomputable def f42c1 := codeAt (bodyOf Try.f42) [0]
theorem f42t1 {ρ : Type} (N : Nat) (f0 : Int × List (List Int × Int)) (K : KT ρ) : f42i N f42c1 .n (f42s0 f0) (joinK (some f42l1) K) =
  impl_DenominatorOf.Z1 N f0 (fun f1_0 f1_1 => K .nrm (f42s1 f1_0 f1_1)) := by kernel_rfl
noncomputable def f42c3 := codeAt (bodyOf Try.f42) [1,0]
theorem f42t3 {ρ : Type} (N : Nat) (f1_0 : Int) (f1_1 : List (List Int × Int)) (K : KT ρ) : f42i N f42c3 .n (f42s1 f1_0 f1_1) (joinK (some f42l1) K) =
  impl_DenominatorOf.Z3 N f1_0 f1_1 (fun f1_0 f1_1 => K .nrm (f42s1 f1_0 f1_1)) (fun t2 => K .ret (f42s9 t2)) := by kernel_rfl
noncomputable def f42c5 := codeAt (bodyOf Try.f42) [1,1,0]
theorem f42t5 {ρ : Type} (N : Nat) (f1_0 : Int) (f1_1 : List (List Int × Int)) (K : KT ρ) : f42i N f42c5 .n (f42s1 f1_0 f1_1) (joinK (some f42l2) K) =
  impl_DenominatorOf.Z5 N f1_0 f1_1 (fun out3 f1_0 f1_1 => K .nrm (f42s2 out3 f1_0 f1_1)) := by kernel_rfl
noncomputable def f42c8 := codeAt (bodyOf Try.f42) [1,1,1,0,0]
theorem f42t8 {ρ : Type} (N : Nat) (out3 : List Int) (f1_0 : Int) (f1_1 : List (List Int × Int)) (K : KT ρ) : f42i N f42c8 .n (f42s2 out3 f1_0 f1_1) (joinK (some f42l3) K) =
  impl_DenominatorOf.Z8 N out3 f1_0 f1_1 (fun out3 t21 t22 f1_0 f1_1 => K .nrm (f42s3 out3 t21 t22 f1_0 f1_1)) := by kernel_rfl
noncomputable def f42c12 := codeAt (bodyOf Try.f42) [1,1,1,0,1,0,0,0]
theorem f42t12 {ρ : Type} (N : Nat) (out3 : List Int) (t21 : Int) (t22 : Int) (f1_0 : Int) (f1_1 : List (List Int × Int)) (K : KT ρ) : f42i N f42c12 .n (f42s3 out3 t21 t22 f1_0 f1_1) (joinK (some f42l4) K) =
  impl_DenominatorOf.Z12 N out3 t21 t22 f1_0 f1_1 (fun out3 t21 t22 t23 f1_0 f1_1 => K .nrm (f42s4 out3 t21 t22 t23 f1_0 f1_1)) := by kernel_rfl
noncomputable def f42c14 := codeAt (bodyOf Try.f42) [1,1,1,0,1,0,0,1,0]
theorem f42t14 {ρ : Type} (N : Nat) (out3 : List Int) (t21 : Int) (t22 : Int) (t23 : Bool) (f1_0 : Int) (f1_1 : List (List Int × Int)) (K : KT ρ) : f42i N f42c14 .n (f42s4 out3 t21 t22 t23 f1_0 f1_1) (joinK (some f42l3) K) =
  impl_DenominatorOf.Z14 N out3 t21 t22 t23 f1_0 f1_1 (fun out3 t21 t22 f1_0 f1_1 => K .nrm (f42s3 out3 t21 t22 f1_0 f1_1)) (fun out3 => K (.exit 0) (f42s8 out3)) := by kernel_rfl
noncomputable def f42c18 := codeAt (bodyOf Try.f42) [1,1,1,0,1,0,0,1,1,0,0,0]
theorem f42t18 {ρ : Type} (N : Nat) (out3 : List Int) (t21 : Int) (t22 : Int) (f1_0 : Int) (f1_1 : List (List Int × Int)) (K : KT ρ) : f42i N f42c18 .n (f42s3 out3 t21 t22 f1_0 f1_1) (joinK (some f42l5) K) =
  impl_DenominatorOf.Z18 N out3 t21 t22 f1_0 f1_1 (fun out3 i4 t21 t22 f1_0 f1_1 => K .nrm (f42s5 out3 i4 t21 t22 f1_0 f1_1)) := by kernel_rfl
noncomputable def f42c20 := codeAt (bodyOf Try.f42) [1,1,1,0,1,0,0,1,1,0,0,1,0]
theorem f42t20 {ρ : Type} (N : Nat) (out3 : List Int) (i4 : Int) (t21 : Int) (t22 : Int) (f1_0 : Int) (f1_1 : List (List Int × Int)) (K : KT ρ) : f42i N f42c20 .n (f42s5 out3 i4 t21 t22 f1_0 f1_1) (joinK (some f42l6) K) =
  impl_DenominatorOf.Z20 N out3 i4 t21 t22 f1_0 f1_1 (fun out3 i4 least5 t21 t22 f1_0 f1_1 => K .nrm (f42s6 out3 i4 least5 t21 t22 f1_0 f1_1)) := by kernel_rfl
noncomputable def f42c23 := codeAt (bodyOf Try.f42) [1,1,1,0,1,0,0,1,1,0,0,1,1,0,0]
theorem f42t23 {ρ : Type} (N : Nat) (out3 : List Int) (i4 : Int) (least5 : Int) (t21 : Int) (t22 : Int) (f1_0 : Int) (f1_1 : List (List Int × Int)) (K : KT ρ) : f42i N f42c23 .n (f42s6 out3 i4 least5 t21 t22 f1_0 f1_1) (joinK (some f42l7) K) =
  impl_DenominatorOf.Z23 N out3 i4 least5 t21 t22 f1_0 f1_1 (fun out3 i4 least5 t21 t22 t26 t27 t28 f1_0 f1_1 => K .nrm (f42s7 out3 i4 least5 t21 t22 t26 t27 t28 f1_0 f1_1)) := by kernel_rfl
noncomputable def f42c26 := codeAt (bodyOf Try.f42) [1,1,1,0,1,0,0,1,1,0,0,1,1,0,1,0,0]
theorem f42t26 {ρ : Type} (N : Nat) (out3 : List Int) (i4 : Int) (least5 : Int) (t21 : Int) (t22 : Int) (t26 : List (List Int × Int)) (t27 : Int) (t28 : Int) (f1_0 : Int) (f1_1 : List (List Int × Int)) (K : KT ρ) : f42i N f42c26 .n (f42s7 out3 i4 least5 t21 t22 t26 t27 t28 f1_0 f1_1) (joinK (some f42l7) K) =
  impl_DenominatorOf.Z26 N out3 i4 least5 t21 t22 t26 t27 t28 f1_0 f1_1 (fun out3 i4 least5 t21 t22 t26 t27 t28 f1_0 f1_1 => K .nrm (f42s7 out3 i4 least5 t21 t22 t26 t27 t28 f1_0 f1_1)) (fun out3 i4 least5 t21 t22 f1_0 f1_1 => K (.exit 2) (f42s6 out3 i4 least5 t21 t22 f1_0 f1_1)) := by kernel_rfl
noncomputable def f42c25 := codeAt (bodyOf Try.f42) [1,1,1,0,1,0,0,1,1,0,0,1,1,0,1,0]
noncomputable def f42p25 : Plan := .mk none (some f42l7) .n .n
noncomputable abbrev f42w25 {ρ : Type} (N : Nat) (M : Nat) (σ : St) (K : KT ρ) : Option ρ := loopC (fun σ K => f42i N f42c26 .n σ K) f42l7 M σ K
theorem f42t25L {ρ : Type} (N : Nat) (K : KT ρ) : ∀ (M : Nat) (out3 : List Int) (i4 : Int) (least5 : Int) (t21 : Int) (t22 : Int) (t26 : List (List Int × Int)) (t27 : Int) (t28 : Int) (f1_0 : Int) (f1_1 : List (List Int × Int)), f42w25 N M (f42s7 out3 i4 least5 t21 t22 t26 t27 t28 f1_0 f1_1) K =
  impl_DenominatorOf.Z25L N (fun out3 i4 least5 t21 t22 f1_0 f1_1 => K (.exit 2) (f42s6 out3 i4 least5 t21 t22 f1_0 f1_1)) M out3 i4 least5 t21 t22 t26 t27 t28 f1_0 f1_1
  | 0, _, _, _, _, _, _, _, _, _, _ => rfl
  | M + 1, out3, i4, least5, t21, t22, t26, t27, t28, f1_0, f1_1 => viaRound (fun k => impl_DenominatorOf.Z26 N out3 i4 least5 t21 t22 t26 t27 t28 f1_0 f1_1 k (fun out3 i4 least5 t21 t22 f1_0 f1_1 => K (.exit 2) (f42s6 out3 i4 least5 t21 t22 f1_0 f1_1))) (f42t26 N out3 i4 least5 t21 t22 t26 t27 t28 f1_0 f1_1 (seqK (fun σ => f42w25 N M σ K) K)) (funext fun out3 => funext fun i4 => funext fun least5 => funext fun t21 => funext fun t22 => funext fun t26 => funext fun t27 => funext fun t28 => funext fun f1_0 => funext fun f1_1 => f42t25L N K M out3 i4 least5 t21 t22 t26 t27 t28 f1_0 f1_1) (by kernel_rfl) (by kernel_rfl)
theorem f42t25 {ρ : Type} (N : Nat) (out3 : List Int) (i4 : Int) (least5 : Int) (t21 : Int) (t22 : Int) (t26 : List (List Int × Int)) (t27 : Int) (t28 : Int) (f1_0 : Int) (f1_1 : List (List Int × Int)) (K : KT ρ) : f42i N f42c25 f42p25 (f42s7 out3 i4 least5 t21 t22 t26 t27 t28 f1_0 f1_1) (joinK (some f42l6) K) =
  impl_DenominatorOf.Z25 N out3 i4 least5 t21 t22 t26 t27 t28 f1_0 f1_1 (fun out3 i4 least5 t21 t22 f1_0 f1_1 => K (.exit 2) (f42s6 out3 i4 least5 t21 t22 f1_0 f1_1)) :=
  viaLoop (by kernel_rfl) (by kernel_rfl) (σ' := f42s7 out3 i4 least5 t21 t22 t26 t27 t28 f1_0 f1_1) (by kernel_rfl) (f42t25L N (joinK (some f42l6) K) N out3 i4 least5 t21 t22 t26 t27 t28 f1_0 f1_1) (by kernel_rfl)
noncomputable def f42c24 := codeAt (bodyOf Try.f42) [1,1,1,0,1,0,0,1,1,0,0,1,1,0,1]
noncomputable def f42p24 : Plan := .mk (some f42l6) none f42p25 .n
theorem f42t24 {ρ : Type} (N : Nat) (out3 : List Int) (i4 : Int) (least5 : Int) (t21 : Int) (t22 : Int) (t26 : List (List Int × Int)) (t27 : Int) (t28 : Int) (f1_0 : Int) (f1_1 : List (List Int × Int)) (K : KT ρ) : f42i N f42c24 f42p24 (f42s7 out3 i4 least5 t21 t22 t26 t27 t28 f1_0 f1_1) (joinK (some f42l6) K) =
  impl_DenominatorOf.Z24 N out3 i4 least5 t21 t22 t26 t27 t28 f1_0 f1_1 (fun out3 i4 least5 t21 t22 f1_0 f1_1 => K .nrm (f42s6 out3 i4 least5 t21 t22 f1_0 f1_1)) :=
  viaBlock (by kernel_rfl) (by kernel_rfl) (f42t25 N out3 i4 least5 t21 t22 t26 t27 t28 f1_0 f1_1 (blockK 2 (joinK (some f42l6) K))) (by kernel_rfl)
noncomputable def f42c22 := codeAt (bodyOf Try.f42) [1,1,1,0,1,0,0,1,1,0,0,1,1,0]
noncomputable def f42p22 : Plan := .mk (some f42l7) none .n f42p24
theorem f42t22 {ρ : Type} (N : Nat) (out3 : List Int) (i4 : Int) (least5 : Int) (t21 : Int) (t22 : Int) (f1_0 : Int) (f1_1 : List (List Int × Int)) (K : KT ρ) : f42i N f42c22 f42p22 (f42s6 out3 i4 least5 t21 t22 f1_0 f1_1) (joinK (some f42l6) K) =
  impl_DenominatorOf.Z22 N out3 i4 least5 t21 t22 f1_0 f1_1 (fun out3 i4 least5 t21 t22 f1_0 f1_1 => K .nrm (f42s6 out3 i4 least5 t21 t22 f1_0 f1_1)) :=
  viaSeq (fun k => impl_DenominatorOf.Z23 N out3 i4 least5 t21 t22 f1_0 f1_1 k) (by kernel_rfl) (by kernel_rfl) (f42t23 N out3 i4 least5 t21 t22 f1_0 f1_1 (seqK (fun σ => f42i N f42c24 f42p24 σ (joinK (some f42l6) K)) (joinK (some f42l6) K))) (funext fun out3 => funext fun i4 => funext fun least5 => funext fun t21 => funext fun t22 => funext fun t26 => funext fun t27 => funext fun t28 => funext fun f1_0 => funext fun f1_1 => f42t24 N out3 i4 least5 t21 t22 t26 t27 t28 f1_0 f1_1 K) (by kernel_rfl) (by kernel_rfl)
noncomputable def f42c27 := codeAt (bodyOf Try.f42) [1,1,1,0,1,0,0,1,1,0,0,1,1,1]
theorem f42t27 {ρ : Type} (N : Nat) (out3 : List Int) (i4 : Int) (least5 : Int) (t21 : Int) (t22 : Int) (f1_0 : Int) (f1_1 : List (List Int × Int)) (K : KT ρ) : f42i N f42c27 .n (f42s6 out3 i4 least5 t21 t22 f1_0 f1_1) (joinK (some f42l3) K) =
  impl_DenominatorOf.Z27 N out3 i4 least5 t21 t22 f1_0 f1_1 (fun out3 t21 t22 f1_0 f1_1 => K .nrm (f42s3 out3 t21 t22 f1_0 f1_1)) := by kernel_rfl
noncomputable def f42c21 := codeAt (bodyOf Try.f42) [1,1,1,0,1,0,0,1,1,0,0,1,1]
noncomputable def f42p21 : Plan := .mk (some f42l6) none f42p22 .n
theorem f42t21 {ρ : Type} (N : Nat) (out3 : List Int) (i4 : Int) (least5 : Int) (t21 : Int) (t22 : Int) (f1_0 : Int) (f1_1 : List (List Int × Int)) (K : KT ρ) : f42i N f42c21 f42p21 (f42s6 out3 i4 least5 t21 t22 f1_0 f1_1) (joinK (some f42l3) K) =
  impl_DenominatorOf.Z21 N out3 i4 least5 t21 t22 f1_0 f1_1 (fun out3 t21 t22 f1_0 f1_1 => K .nrm (f42s3 out3 t21 t22 f1_0 f1_1)) :=
  viaSeq (fun k => impl_DenominatorOf.Z22 N out3 i4 least5 t21 t22 f1_0 f1_1 k) (by kernel_rfl) (by kernel_rfl) (f42t22 N out3 i4 least5 t21 t22 f1_0 f1_1 (seqK (fun σ => f42i N f42c27 .n σ (joinK (some f42l3) K)) (joinK (some f42l3) K))) (funext fun out3 => funext fun i4 => funext fun least5 => funext fun t21 => funext fun t22 => funext fun f1_0 => funext fun f1_1 => f42t27 N out3 i4 least5 t21 t22 f1_0 f1_1 K) (by kernel_rfl) (by kernel_rfl)
noncomputable def f42c19 := codeAt (bodyOf Try.f42) [1,1,1,0,1,0,0,1,1,0,0,1]
noncomputable def f42p19 : Plan := .mk (some f42l6) none .n f42p21
theorem f42t19 {ρ : Type} (N : Nat) (out3 : List Int) (i4 : Int) (t21 : Int) (t22 : Int) (f1_0 : Int) (f1_1 : List (List Int × Int)) (K : KT ρ) : f42i N f42c19 f42p19 (f42s5 out3 i4 t21 t22 f1_0 f1_1) (joinK (some f42l3) K) =
  impl_DenominatorOf.Z19 N out3 i4 t21 t22 f1_0 f1_1 (fun out3 t21 t22 f1_0 f1_1 => K .nrm (f42s3 out3 t21 t22 f1_0 f1_1)) :=
  viaSeq (fun k => impl_DenominatorOf.Z20 N out3 i4 t21 t22 f1_0 f1_1 k) (by kernel_rfl) (by kernel_rfl) (f42t20 N out3 i4 t21 t22 f1_0 f1_1 (seqK (fun σ => f42i N f42c21 f42p21 σ (joinK (some f42l3) K)) (joinK (some f42l3) K))) (funext fun out3 => funext fun i4 => funext fun least5 => funext fun t21 => funext fun t22 => funext fun f1_0 => funext fun f1_1 => f42t21 N out3 i4 least5 t21 t22 f1_0 f1_1 K) (by kernel_rfl) (by kernel_rfl)
noncomputable def f42c17 := codeAt (bodyOf Try.f42) [1,1,1,0,1,0,0,1,1,0,0]
noncomputable def f42p17 : Plan := .mk (some f42l5) none .n f42p19
theorem f42t17 {ρ : Type} (N : Nat) (out3 : List Int) (t21 : Int) (t22 : Int) (f1_0 : Int) (f1_1 : List (List Int × Int)) (K : KT ρ) : f42i N f42c17 f42p17 (f42s3 out3 t21 t22 f1_0 f1_1) (joinK (some f42l3) K) =
  impl_DenominatorOf.Z17 N out3 t21 t22 f1_0 f1_1 (fun out3 t21 t22 f1_0 f1_1 => K .nrm (f42s3 out3 t21 t22 f1_0 f1_1)) :=
  viaSeq (fun k => impl_DenominatorOf.Z18 N out3 t21 t22 f1_0 f1_1 k) (by kernel_rfl) (by kernel_rfl) (f42t18 N out3 t21 t22 f1_0 f1_1 (seqK (fun σ => f42i N f42c19 f42p19 σ (joinK (some f42l3) K)) (joinK (some f42l3) K))) (funext fun out3 => funext fun i4 => funext fun t21 => funext fun t22 => funext fun f1_0 => funext fun f1_1 => f42t19 N out3 i4 t21 t22 f1_0 f1_1 K) (by kernel_rfl) (by kernel_rfl)
noncomputable def f42c16 := codeAt (bodyOf Try.f42) [1,1,1,0,1,0,0,1,1,0]
noncomputable def f42p16 : Plan := .mk (some f42l3) none f42p17 .n
theorem f42t16 {ρ : Type} (N : Nat) (out3 : List Int) (t21 : Int) (t22 : Int) (f1_0 : Int) (f1_1 : List (List Int × Int)) (K : KT ρ) : f42i N f42c16 f42p16 (f42s3 out3 t21 t22 f1_0 f1_1) (joinK (some f42l3) K) =
  impl_DenominatorOf.Z16 N out3 t21 t22 f1_0 f1_1 (fun out3 t21 t22 f1_0 f1_1 => K .nrm (f42s3 out3 t21 t22 f1_0 f1_1)) :=
  viaBlock (by kernel_rfl) (by kernel_rfl) (f42t17 N out3 t21 t22 f1_0 f1_1 (blockK 1 (joinK (some f42l3) K))) (by kernel_rfl)
noncomputable def f42c28 := codeAt (bodyOf Try.f42) [1,1,1,0,1,0,0,1,1,1]
theorem f42t28 {ρ : Type} (N : Nat) (out3 : List Int) (t21 : Int) (t22 : Int) (f1_0 : Int) (f1_1 : List (List Int × Int)) (K : KT ρ) : f42i N f42c28 .n (f42s3 out3 t21 t22 f1_0 f1_1) (joinK (some f42l3) K) =
  impl_DenominatorOf.Z28 N out3 t21 t22 f1_0 f1_1 (fun out3 t21 t22 f1_0 f1_1 => K .nrm (f42s3 out3 t21 t22 f1_0 f1_1)) := by kernel_rfl
noncomputable def f42c15 := codeAt (bodyOf Try.f42) [1,1,1,0,1,0,0,1,1]
noncomputable def f42p15 : Plan := .mk (some f42l3) none f42p16 .n
theorem f42t15 {ρ : Type} (N : Nat) (out3 : List Int) (t21 : Int) (t22 : Int) (f1_0 : Int) (f1_1 : List (List Int × Int)) (K : KT ρ) : f42i N f42c15 f42p15 (f42s3 out3 t21 t22 f1_0 f1_1) (joinK (some f42l3) K) =
  impl_DenominatorOf.Z15 N out3 t21 t22 f1_0 f1_1 (fun out3 t21 t22 f1_0 f1_1 => K .nrm (f42s3 out3 t21 t22 f1_0 f1_1)) :=
  viaSeq (fun k => impl_DenominatorOf.Z16 N out3 t21 t22 f1_0 f1_1 k) (by kernel_rfl) (by kernel_rfl) (f42t16 N out3 t21 t22 f1_0 f1_1 (seqK (fun σ => f42i N f42c28 .n σ (joinK (some f42l3) K)) (joinK (some f42l3) K))) (funext fun out3 => funext fun t21 => funext fun t22 => funext fun f1_0 => funext fun f1_1 => f42t28 N out3 t21 t22 f1_0 f1_1 K) (by kernel_rfl) (by kernel_rfl)
noncomputable def f42c13 := codeAt (bodyOf Try.f42) [1,1,1,0,1,0,0,1]
noncomputable def f42p13 : Plan := .mk (some f42l3) none .n f42p15
theorem f42t13 {ρ : Type} (N : Nat) (out3 : List Int) (t21 : Int) (t22 : Int) (t23 : Bool) (f1_0 : Int) (f1_1 : List (List Int × Int)) (K : KT ρ) : f42i N f42c13 f42p13 (f42s4 out3 t21 t22 t23 f1_0 f1_1) (joinK (some f42l3) K) =
  impl_DenominatorOf.Z13 N out3 t21 t22 t23 f1_0 f1_1 (fun out3 t21 t22 f1_0 f1_1 => K .nrm (f42s3 out3 t21 t22 f1_0 f1_1)) (fun out3 => K (.exit 0) (f42s8 out3)) :=
  viaSeq (fun k => impl_DenominatorOf.Z14 N out3 t21 t22 t23 f1_0 f1_1 k (fun out3 => K (.exit 0) (f42s8 out3))) (by kernel_rfl) (by kernel_rfl) (f42t14 N out3 t21 t22 t23 f1_0 f1_1 (seqK (fun σ => f42i N f42c15 f42p15 σ (joinK (some f42l3) K)) (joinK (some f42l3) K))) (funext fun out3 => funext fun t21 => funext fun t22 => funext fun f1_0 => funext fun f1_1 => f42t15 N out3 t21 t22 f1_0 f1_1 K) (by kernel_rfl) (by kernel_rfl)
noncomputable def f42c11 := codeAt (bodyOf Try.f42) [1,1,1,0,1,0,0]
noncomputable def f42p11 : Plan := .mk (some f42l4) none .n f42p13
theorem f42t11 {ρ : Type} (N : Nat) (out3 : List Int) (t21 : Int) (t22 : Int) (f1_0 : Int) (f1_1 : List (List Int × Int)) (K : KT ρ) : f42i N f42c11 f42p11 (f42s3 out3 t21 t22 f1_0 f1_1) (joinK (some f42l3) K) =
  impl_DenominatorOf.Z11 N out3 t21 t22 f1_0 f1_1 (fun out3 t21 t22 f1_0 f1_1 => K .nrm (f42s3 out3 t21 t22 f1_0 f1_1)) (fun out3 => K (.exit 0) (f42s8 out3)) :=
  viaSeq (fun k => impl_DenominatorOf.Z12 N out3 t21 t22 f1_0 f1_1 k) (by kernel_rfl) (by kernel_rfl) (f42t12 N out3 t21 t22 f1_0 f1_1 (seqK (fun σ => f42i N f42c13 f42p13 σ (joinK (some f42l3) K)) (joinK (some f42l3) K))) (funext fun out3 => funext fun t21 => funext fun t22 => funext fun t23 => funext fun f1_0 => funext fun f1_1 => f42t13 N out3 t21 t22 t23 f1_0 f1_1 K) (by kernel_rfl) (by kernel_rfl)
noncomputable def f42c10 := codeAt (bodyOf Try.f42) [1,1,1,0,1,0]
noncomputable def f42p10 : Plan := .mk none (some f42l3) f42p11 .n
noncomputable abbrev f42w10 {ρ : Type} (N : Nat) (M : Nat) (σ : St) (K : KT ρ) : Option ρ := loopC (fun σ K => f42i N f42c11 f42p11 σ K) f42l3 M σ K
theorem f42t10L {ρ : Type} (N : Nat) (K : KT ρ) : ∀ (M : Nat) (out3 : List Int) (t21 : Int) (t22 : Int) (f1_0 : Int) (f1_1 : List (List Int × Int)), f42w10 N M (f42s3 out3 t21 t22 f1_0 f1_1) K =
  impl_DenominatorOf.Z10L N (fun out3 => K (.exit 0) (f42s8 out3)) M out3 t21 t22 f1_0 f1_1
  | 0, _, _, _, _, _ => rfl
  | M + 1, out3, t21, t22, f1_0, f1_1 => viaRound (fun k => impl_DenominatorOf.Z11 N out3 t21 t22 f1_0 f1_1 k (fun out3 => K (.exit 0) (f42s8 out3))) (f42t11 N out3 t21 t22 f1_0 f1_1 (seqK (fun σ => f42w10 N M σ K) K)) (funext fun out3 => funext fun t21 => funext fun t22 => funext fun f1_0 => funext fun f1_1 => f42t10L N K M out3 t21 t22 f1_0 f1_1) (by kernel_rfl) (by kernel_rfl)
theorem f42t10 {ρ : Type} (N : Nat) (out3 : List Int) (t21 : Int) (t22 : Int) (f1_0 : Int) (f1_1 : List (List Int × Int)) (K : KT ρ) : f42i N f42c10 f42p10 (f42s3 out3 t21 t22 f1_0 f1_1) (joinK (some f42l8) K) =
  impl_DenominatorOf.Z10 N out3 t21 t22 f1_0 f1_1 (fun out3 => K (.exit 0) (f42s8 out3)) :=
  viaLoop (by kernel_rfl) (by kernel_rfl) (σ' := f42s3 out3 t21 t22 f1_0 f1_1) (by kernel_rfl) (f42t10L N (joinK (some f42l8) K) N out3 t21 t22 f1_0 f1_1) (by kernel_rfl)
noncomputable def f42c9 := codeAt (bodyOf Try.f42) [1,1,1,0,1]
noncomputable def f42p9 : Plan := .mk (some f42l8) none f42p10 .n
theorem f42t9 {ρ : Type} (N : Nat) (out3 : List Int) (t21 : Int) (t22 : Int) (f1_0 : Int) (f1_1 : List (List Int × Int)) (K : KT ρ) : f42i N f42c9 f42p9 (f42s3 out3 t21 t22 f1_0 f1_1) (joinK (some f42l8) K) =
  impl_DenominatorOf.Z9 N out3 t21 t22 f1_0 f1_1 (fun out3 => K .nrm (f42s8 out3)) :=
  viaBlock (by kernel_rfl) (by kernel_rfl) (f42t10 N out3 t21 t22 f1_0 f1_1 (blockK 0 (joinK (some f42l8) K))) (by kernel_rfl)
noncomputable def f42c7 := codeAt (bodyOf Try.f42) [1,1,1,0]
noncomputable def f42p7 : Plan := .mk (some f42l3) none .n f42p9
theorem f42t7 {ρ : Type} (N : Nat) (out3 : List Int) (f1_0 : Int) (f1_1 : List (List Int × Int)) (K : KT ρ) : f42i N f42c7 f42p7 (f42s2 out3 f1_0 f1_1) (joinK (some f42l8) K) =
  impl_DenominatorOf.Z7 N out3 f1_0 f1_1 (fun out3 => K .nrm (f42s8 out3)) :=
  viaSeq (fun k => impl_DenominatorOf.Z8 N out3 f1_0 f1_1 k) (by kernel_rfl) (by kernel_rfl) (f42t8 N out3 f1_0 f1_1 (seqK (fun σ => f42i N f42c9 f42p9 σ (joinK (some f42l8) K)) (joinK (some f42l8) K))) (funext fun out3 => funext fun t21 => funext fun t22 => funext fun f1_0 => funext fun f1_1 => f42t9 N out3 t21 t22 f1_0 f1_1 K) (by kernel_rfl) (by kernel_rfl)
noncomputable def f42c29 := codeAt (bodyOf Try.f42) [1,1,1,1]
theorem f42t29 {ρ : Type} (N : Nat) (out3 : List Int) (K : KT ρ) : f42i N f42c29 .n (f42s8 out3) (joinK (some f42lE) K) =
  impl_DenominatorOf.Z29 N out3 (fun t2 => K .ret (f42s9 t2)) := by kernel_rfl
noncomputable def f42c6 := codeAt (bodyOf Try.f42) [1,1,1]
noncomputable def f42p6 : Plan := .mk (some f42l8) none f42p7 .n
theorem f42t6 {ρ : Type} (N : Nat) (out3 : List Int) (f1_0 : Int) (f1_1 : List (List Int × Int)) (K : KT ρ) : f42i N f42c6 f42p6 (f42s2 out3 f1_0 f1_1) (joinK (some f42lE) K) =
  impl_DenominatorOf.Z6 N out3 f1_0 f1_1 (fun t2 => K .ret (f42s9 t2)) :=
  viaSeq (fun k => impl_DenominatorOf.Z7 N out3 f1_0 f1_1 k) (by kernel_rfl) (by kernel_rfl) (f42t7 N out3 f1_0 f1_1 (seqK (fun σ => f42i N f42c29 .n σ (joinK (some f42lE) K)) (joinK (some f42lE) K))) (funext fun out3 => f42t29 N out3 K) (by kernel_rfl) (by kernel_rfl)
noncomputable def f42c4 := codeAt (bodyOf Try.f42) [1,1]
noncomputable def f42p4 : Plan := .mk (some f42l2) none .n f42p6
theorem f42t4 {ρ : Type} (N : Nat) (f1_0 : Int) (f1_1 : List (List Int × Int)) (K : KT ρ) : f42i N f42c4 f42p4 (f42s1 f1_0 f1_1) (joinK (some f42lE) K) =
  impl_DenominatorOf.Z4 N f1_0 f1_1 (fun t2 => K .ret (f42s9 t2)) :=
  viaSeq (fun k => impl_DenominatorOf.Z5 N f1_0 f1_1 k) (by kernel_rfl) (by kernel_rfl) (f42t5 N f1_0 f1_1 (seqK (fun σ => f42i N f42c6 f42p6 σ (joinK (some f42lE) K)) (joinK (some f42lE) K))) (funext fun out3 => funext fun f1_0 => funext fun f1_1 => f42t6 N out3 f1_0 f1_1 K) (by kernel_rfl) (by kernel_rfl)
noncomputable def f42c2 := codeAt (bodyOf Try.f42) [1]
noncomputable def f42p2 : Plan := .mk (some f42l1) none .n f42p4
theorem f42t2 {ρ : Type} (N : Nat) (f1_0 : Int) (f1_1 : List (List Int × Int)) (K : KT ρ) : f42i N f42c2 f42p2 (f42s1 f1_0 f1_1) (joinK (some f42lE) K) =
  impl_DenominatorOf.Z2 N f1_0 f1_1 (fun t2 => K .ret (f42s9 t2)) :=
  viaSeq (fun k => impl_DenominatorOf.Z3 N f1_0 f1_1 k (fun t2 => K .ret (f42s9 t2))) (by kernel_rfl) (by kernel_rfl) (f42t3 N f1_0 f1_1 (seqK (fun σ => f42i N f42c4 f42p4 σ (joinK (some f42lE) K)) (joinK (some f42lE) K))) (funext fun f1_0 => funext fun f1_1 => f42t4 N f1_0 f1_1 K) (by kernel_rfl) (by kernel_rfl)
noncomputable def f42c0 := codeAt (bodyOf Try.f42) []
noncomputable def f42p0 : Plan := .mk (some f42l1) none .n f42p2
theorem f42t0 {ρ : Type} (N : Nat) (f0 : Int × List (List Int × Int)) (K : KT ρ) : f42i N f42c0 f42p0 (f42s0 f0) (joinK (some f42lE) K) =
  impl_DenominatorOf.Z0 N f0 (fun t2 => K .ret (f42s9 t2)) :=
  viaSeq (fun k => impl_DenominatorOf.Z1 N f0 k) (by kernel_rfl) (by kernel_rfl) (f42t1 N f0 (seqK (fun σ => f42i N f42c2 f42p2 σ (joinK (some f42lE) K)) (joinK (some f42lE) K))) (funext fun f1_0 => funext fun f1_1 => f42t2 N f1_0 f1_1 K) (by kernel_rfl) (by kernel_rfl)
theorem f42m (N : Nat) (f0 : Int × List (List Int × Int)) : f42i N f42c0 f42p0 (f42s0 f0) (joinK (some f42lE) (finK tab f42sig Try.f42.results.toList)) = impl_DenominatorOf.Z0 N f0 (fun t2 => some ((), (t2, ()))) :=
  (f42t0 N f0 (finK tab f42sig Try.f42.results.toList)).trans (by kernel_rfl)
theorem f42ok (h : impl_DenominatorOf.Spec) : EntryOk Try.prog 42 e42 :=
  entry_of_code (sig := f42sig) (c := f42c0) (pl := f42p0) (je := (some f42lE)) (B := f42B) Try.func42 (by kernel_rfl) (by kernel_rfl) (by kernel_rfl) tabOk f42GOk (by kernel_rfl) (by kernel_rfl) (by kernel_rfl) (by kernel_rfl) fun X hb hp => by
    obtain ⟨f0, _⟩ := X
    obtain ⟨N, h⟩ := h f0 hb.1
    exact ⟨N, (f42m N f0).trans (h N (Nat.le_refl N))⟩
theorem e42ok : EntryOk Try.prog 42 e42 := f42ok impl_DenominatorOf.ok
end Go.Fw
set_option linter.unusedVariables false
set_option linter.unusedSimpArgs false
set_option maxRecDepth 100000
namespace Go.Fw
open Go.Proofs
/-! ### loop.example/g03115/laws.eqIntS -/
noncomputable def f22sig : Sig := ⟨[⟨.sl 3 (.int .i64), false, false⟩, ⟨.sl 3 (.int .i64), false, false⟩], [⟨.bool, false, false⟩]⟩
noncomputable def e22 : Entry := ⟨f22sig, none, fun X => ((), ((laws_eqIntS.g X.1 X.2.1), ()))⟩
noncomputable def f22G : Nat → Option Entry := (fun _ => none)
theorem f22GOk : GOk Try.prog f22G := GOk.nil
noncomputable def f22lE : Clean := ⟨[], [], [], [], []⟩
noncomputable def f22s0 (a0 : List Int) (b1 : List Int) : St := initSt f22sig.ps (a0, (b1, ()))
noncomputable def f22s1 (a0 : List Int) (b1 : List Int) : St := stOf [(0, .c (.sn 3 (.int .i64) a0 none)), (1, .c (.sn 3 (.int .i64) b1 none))] [] []
noncomputable def f22l1 : Clean := ⟨[0, 1], [], [], [], []⟩
noncomputable def f22s2 (a0 : List Int) (b1 : List Int) (i5 : Int) : St := stOf [(0, .c (.sn 3 (.int .i64) a0 none)), (1, .c (.sn 3 (.int .i64) b1 none)), (5, .c (.int .i64 i5))] [] []
noncomputable def f22l2 : Clean := ⟨[0, 1, 5], [], [], [], []⟩
noncomputable def f22s3  : St := stOf [] [] []
noncomputable def f22l3 : Clean := ⟨[], [], [], [], []⟩
noncomputable def f22s4 (t4 : Bool) : St := stOf [(4, .c (.bool t4))] [] []
noncomputable def f22l4 : Clean := ⟨[4], [], [], [], []⟩
noncomputable def f22B : Nat → Option Clean := lookL [(0, f22l3), (1000000, f22l4)]
noncomputable abbrev f22i {ρ : Type} (N : Nat) (c : Code) (p : Plan) (σ : St) (K : KT ρ) : Option ρ := iCode f22G tab f22B N c p σ K
noncomputable def f22c1 := codeAt (bodyOf Try.f22) [0]
theorem f22t1 {ρ : Type} (N : Nat) (a0 : List Int) (b1 : List Int) (K : KT ρ) : f22i N f22c1 .n (f22s0 a0 b1) (joinK (some f22l1) K) =
  laws_eqIntS.Z1 N a0 b1 (fun a0 b1 => K .nrm (f22s1 a0 b1)) := by kernel_rfl
noncomputable def f22c3 := codeAt (bodyOf Try.f22) [1,0]
theorem f22t3 {ρ : Type} (N : Nat) (a0 : List Int) (b1 : List Int) (K : KT ρ) : f22i N f22c3 .n (f22s1 a0 b1) (joinK (some f22l1) K) =
  laws_eqIntS.Z3 N a0 b1 (fun a0 b1 => K .nrm (f22s1 a0 b1)) (fun t4 => K .ret (f22s4 t4)) := by kernel_rfl
noncomputable def f22c6 := codeAt (bodyOf Try.f22) [1,1,0,0]
theorem f22t6 {ρ : Type} (N : Nat) (a0 : List Int) (b1 : List Int) (K : KT ρ) : f22i N f22c6 .n (f22s1 a0 b1) (joinK (some f22l2) K) =
  laws_eqIntS.Z6 N a0 b1 (fun a0 b1 i5 => K .nrm (f22s2 a0 b1 i5)) := by kernel_rfl
noncomputable def f22c9 := codeAt (bodyOf Try.f22) [1,1,0,1,0,0]
theorem f22t9 {ρ : Type} (N : Nat) (a0 : List Int) (b1 : List Int) (i5 : Int) (K : KT ρ) : f22i N f22c9 .n (f22s2 a0 b1 i5) (joinK (some f22l2) K) =
  laws_eqIntS.Z9 N a0 b1 i5 (fun a0 b1 i5 => K .nrm (f22s2 a0 b1 i5)) (K (.exit 0) f22s3) (fun t4 => K .ret (f22s4 t4)) := by kernel_rfl
noncomputable def f22c8 := codeAt (bodyOf Try.f22) [1,1,0,1,0]
noncomputable def f22p8 : Plan := .mk none (some f22l2) .n .n
noncomputable abbrev f22w8 {ρ : Type} (N : Nat) (M : Nat) (σ : St) (K : KT ρ) : Option ρ := loopC (fun σ K => f22i N f22c9 .n σ K) f22l2 M σ K
theorem f22t8L {ρ : Type} (N : Nat) (K : KT ρ) : ∀ (M : Nat) (a0 : List Int) (b1 : List Int) (i5 : Int), f22w8 N M (f22s2 a0 b1 i5) K =
  laws_eqIntS.Z8L N (K (.exit 0) f22s3) (fun t4 => K .ret (f22s4 t4)) M a0 b1 i5
  | 0, _, _, _ => rfl
  | M + 1, a0, b1, i5 => viaRound (fun k => laws_eqIntS.Z9 N a0 b1 i5 k (K (.exit 0) f22s3) (fun t4 => K .ret (f22s4 t4))) (f22t9 N a0 b1 i5 (seqK (fun σ => f22w8 N M σ K) K)) (funext fun a0 => funext fun b1 => funext fun i5 => f22t8L N K M a0 b1 i5) (by kernel_rfl) (by kernel_rfl)
theorem f22t8 {ρ : Type} (N : Nat) (a0 : List Int) (b1 : List Int) (i5 : Int) (K : KT ρ) : f22i N f22c8 f22p8 (f22s2 a0 b1 i5) (joinK (some f22l3) K) =
  laws_eqIntS.Z8 N a0 b1 i5 (K (.exit 0) f22s3) (fun t4 => K .ret (f22s4 t4)) :=
  viaLoop (by kernel_rfl) (by kernel_rfl) (σ' := f22s2 a0 b1 i5) (by kernel_rfl) (f22t8L N (joinK (some f22l3) K) N a0 b1 i5) (by kernel_rfl)
noncomputable def f22c7 := codeAt (bodyOf Try.f22) [1,1,0,1]
noncomputable def f22p7 : Plan := .mk (some f22l3) none f22p8 .n
theorem f22t7 {ρ : Type} (N : Nat) (a0 : List Int) (b1 : List Int) (i5 : Int) (K : KT ρ) : f22i N f22c7 f22p7 (f22s2 a0 b1 i5) (joinK (some f22l3) K) =
  laws_eqIntS.Z7 N a0 b1 i5 (K .nrm f22s3) (fun t4 => K .ret (f22s4 t4)) :=
  viaBlock (by kernel_rfl) (by kernel_rfl) (f22t8 N a0 b1 i5 (blockK 0 (joinK (some f22l3) K))) (by kernel_rfl)
noncomputable def f22c5 := codeAt (bodyOf Try.f22) [1,1,0]
noncomputable def f22p5 : Plan := .mk (some f22l2) none .n f22p7
theorem f22t5 {ρ : Type} (N : Nat) (a0 : List Int) (b1 : List Int) (K : KT ρ) : f22i N f22c5 f22p5 (f22s1 a0 b1) (joinK (some f22l3) K) =
  laws_eqIntS.Z5 N a0 b1 (K .nrm f22s3) (fun t4 => K .ret (f22s4 t4)) :=
  viaSeq (fun k => laws_eqIntS.Z6 N a0 b1 k) (by kernel_rfl) (by kernel_rfl) (f22t6 N a0 b1 (seqK (fun σ => f22i N f22c7 f22p7 σ (joinK (some f22l3) K)) (joinK (some f22l3) K))) (funext fun a0 => funext fun b1 => funext fun i5 => f22t7 N a0 b1 i5 K) (by kernel_rfl) (by kernel_rfl)
noncomputable def f22c10 := codeAt (bodyOf Try.f22) [1,1,1]
theorem f22t10 {ρ : Type} (N : Nat)  (K : KT ρ) : f22i N f22c10 .n f22s3 (joinK (some f22lE) K) =
  laws_eqIntS.Z10 N (fun t4 => K .ret (f22s4 t4)) := by kernel_rfl
noncomputable def f22c4 := codeAt (bodyOf Try.f22) [1,1]
noncomputable def f22p4 : Plan := .mk (some f22l3) none f22p5 .n
theorem f22t4 {ρ : Type} (N : Nat) (a0 : List Int) (b1 : List Int) (K : KT ρ) : f22i N f22c4 f22p4 (f22s1 a0 b1) (joinK (some f22lE) K) =
  laws_eqIntS.Z4 N a0 b1 (fun t4 => K .ret (f22s4 t4)) :=
  viaSeq (fun k => laws_eqIntS.Z5 N a0 b1 k (fun t4 => K .ret (f22s4 t4))) (by kernel_rfl) (by kernel_rfl) (f22t5 N a0 b1 (seqK (fun σ => f22i N f22c10 .n σ (joinK (some f22lE) K)) (joinK (some f22lE) K))) (f22t10 N K) (by kernel_rfl) (by kernel_rfl)
noncomputable def f22c2 := codeAt (bodyOf Try.f22) [1]
noncomputable def f22p2 : Plan := .mk (some f22l1) none .n f22p4
theorem f22t2 {ρ : Type} (N : Nat) (a0 : List Int) (b1 : List Int) (K : KT ρ) : f22i N f22c2 f22p2 (f22s1 a0 b1) (joinK (some f22lE) K) =
  laws_eqIntS.Z2 N a0 b1 (fun t4 => K .ret (f22s4 t4)) :=
  viaSeq (fun k => laws_eqIntS.Z3 N a0 b1 k (fun t4 => K .ret (f22s4 t4))) (by kernel_rfl) (by kernel_rfl) (f22t3 N a0 b1 (seqK (fun σ => f22i N f22c4 f22p4 σ (joinK (some f22lE) K)) (joinK (some f22lE) K))) (funext fun a0 => funext fun b1 => f22t4 N a0 b1 K) (by kernel_rfl) (by kernel_rfl)
noncomputable def f22c0 := codeAt (bodyOf Try.f22) []
noncomputable def f22p0 : Plan := .mk (some f22l1) none .n f22p2
theorem f22t0 {ρ : Type} (N : Nat) (a0 : List Int) (b1 : List Int) (K : KT ρ) : f22i N f22c0 f22p0 (f22s0 a0 b1) (joinK (some f22lE) K) =
  laws_eqIntS.Z0 N a0 b1 (fun t4 => K .ret (f22s4 t4)) :=
  viaSeq (fun k => laws_eqIntS.Z1 N a0 b1 k) (by kernel_rfl) (by kernel_rfl) (f22t1 N a0 b1 (seqK (fun σ => f22i N f22c2 f22p2 σ (joinK (some f22lE) K)) (joinK (some f22lE) K))) (funext fun a0 => funext fun b1 => f22t2 N a0 b1 K) (by kernel_rfl) (by kernel_rfl)
theorem f22m (N : Nat) (a0 : List Int) (b1 : List Int) : f22i N f22c0 f22p0 (f22s0 a0 b1) (joinK (some f22lE) (finK tab f22sig Try.f22.results.toList)) = laws_eqIntS.Z0 N a0 b1 (fun t4 => some ((), (t4, ()))) :=
  (f22t0 N a0 b1 (finK tab f22sig Try.f22.results.toList)).trans (by kernel_rfl)
theorem f22ok (h : laws_eqIntS.Spec) : EntryOk Try.prog 22 e22 :=
  entry_of_code (sig := f22sig) (c := f22c0) (pl := f22p0) (je := (some f22lE)) (B := f22B) Try.func22 (by kernel_rfl) (by kernel_rfl) (by kernel_rfl) tabOk f22GOk (by kernel_rfl) (by kernel_rfl) (by kernel_rfl) (by kernel_rfl) fun X hb hp => by
    obtain ⟨a0, b1, _⟩ := X
    obtain ⟨N, h⟩ := h a0 b1 hb.1 hb.2.1
    exact ⟨N, (f22m N a0 b1).trans (h N (Nat.le_refl N))⟩
theorem e22ok : EntryOk Try.prog 22 e22 := f22ok laws_eqIntS.ok
end Go.Fw
set_option linter.unusedVariables false
set_option linter.unusedSimpArgs false
set_option maxRecDepth 100000
namespace Go.Fw
open Go.Proofs
/-! ### loop.example/g03115/laws.eqTerm -/
noncomputable def f78sig : Sig := ⟨[⟨.pair (.sl 3 (.int .i64)) (.int .i64), true, false⟩, ⟨.pair (.sl 3 (.int .i64)) (.int .i64), true, false⟩], [⟨.bool, false, false⟩]⟩
noncomputable def e78 : Entry := ⟨f78sig, none, fun X => ((), ((laws_eqTerm.g X.1 X.2.1), ()))⟩
noncomputable def f78G : Nat → Option Entry := addG (fun _ => none) 22 e22
theorem f78GOk : GOk Try.prog f78G := (GOk.nil).add e22ok (by kernel_rfl)
noncomputable def f78lE : Clean := ⟨[], [], [], [], []⟩
noncomputable def f78s0 (a0 : List Int × Int) (b1 : List Int × Int) : St := initSt f78sig.ps (a0, (b1, ()))
noncomputable def f78s1 (t4 : Bool) : St := stOf [(4, .c (.bool t4))] [] []
noncomputable def f78l1 : Clean := ⟨[4], [], [], [], []⟩
noncomputable def f78B : Nat → Option Clean := lookL [(1000000, f78l1)]
noncomputable abbrev f78i {ρ : Type} (N : Nat) (c : Code) (p : Plan) (σ : St) (K : KT ρ) : Option ρ := iCode f78G tab f78B N c p σ K
noncomputable def f78c0 := codeAt (bodyOf Try.f78) []
theorem f78t0 {ρ : Type} (N : Nat) (a0 : List Int × Int) (b1 : List Int × Int) (K : KT ρ) : f78i N f78c0 .n (f78s0 a0 b1) (joinK (some f78lE) K) =
  laws_eqTerm.Z0 N a0 b1 (fun t4 => K .ret (f78s1 t4)) := by kernel_rfl
theorem f78m (N : Nat) (a0 : List Int × Int) (b1 : List Int × Int) : f78i N f78c0 .n (f78s0 a0 b1) (joinK (some f78lE) (finK tab f78sig Try.f78.results.toList)) = laws_eqTerm.Z0 N a0 b1 (fun t4 => some ((), (t4, ()))) :=
  (f78t0 N a0 b1 (finK tab f78sig Try.f78.results.toList)).trans (by kernel_rfl)
theorem f78ok (h : laws_eqTerm.Spec) : EntryOk Try.prog 78 e78 :=
  entry_of_code (sig := f78sig) (c := f78c0) (pl := .n) (je := (some f78lE)) (B := f78B) Try.func78 (by kernel_rfl) (by kernel_rfl) (by kernel_rfl) tabOk f78GOk (by kernel_rfl) (by kernel_rfl) (by kernel_rfl) (by kernel_rfl) fun X hb hp => by
    obtain ⟨a0, b1, _⟩ := X
    obtain ⟨N, h⟩ := h a0 b1 hb.1 hb.2.1
    exact ⟨N, (f78m N a0 b1).trans (h N (Nat.le_refl N))⟩
theorem e78ok : EntryOk Try.prog 78 e78 := f78ok laws_eqTerm.ok
end Go.Fw
set_option linter.unusedVariables false
set_option linter.unusedSimpArgs false
set_option maxRecDepth 100000
namespace Go.Fw
open Go.Proofs
/-! ### loop.example/g03115/laws.eqTermS -/
noncomputable def f50sig : Sig := ⟨[⟨.sl 59 (.pair (.sl 3 (.int .i64)) (.int .i64)), false, false⟩, ⟨.sl 59 (.pair (.sl 3 (.int .i64)) (.int .i64)), false, false⟩], [⟨.bool, false, false⟩]⟩
noncomputable def e50 : Entry := ⟨f50sig, none, fun X => ((), ((laws_eqTermS.g X.1 X.2.1), ()))⟩
noncomputable def f50G : Nat → Option Entry := addG (fun _ => none) 78 e78
theorem f50GOk : GOk Try.prog f50G := (GOk.nil).add e78ok (by kernel_rfl)
noncomputable def f50lE : Clean := ⟨[], [], [], [], []⟩
noncomputable def f50s0 (a0 : List (List Int × Int)) (b1 : List (List Int × Int)) : St := initSt f50sig.ps (a0, (b1, ()))
noncomputable def f50s1 (a0 : List (List Int × Int)) (b1 : List (List Int × Int)) : St := stOf [(0, .c (.sn 59 (.pair (.sl 3 (.int .i64)) (.int .i64)) a0 none)), (1, .c (.sn 59 (.pair (.sl 3 (.int .i64)) (.int .i64)) b1 none))] [] []
noncomputable def f50l1 : Clean := ⟨[0, 1], [], [], [], []⟩
noncomputable def f50s2 (a0 : List (List Int × Int)) (b1 : List (List Int × Int)) (i5 : Int) : St := stOf [(0, .c (.sn 59 (.pair (.sl 3 (.int .i64)) (.int .i64)) a0 none)), (1, .c (.sn 59 (.pair (.sl 3 (.int .i64)) (.int .i64)) b1 none)), (5, .c (.int .i64 i5))] [] []
noncomputable def f50l2 : Clean := ⟨[0, 1, 5], [], [], [], []⟩
noncomputable def f50s3  : St := stOf [] [] []
noncomputable def f50l3 : Clean := ⟨[], [], [], [], []⟩
noncomputable def f50s4 (t4 : Bool) : St := stOf [(4, .c (.bool t4))] [] []
noncomputable def f50l4 : Clean := ⟨[4], [], [], [], []⟩
noncomputable def f50B : Nat → Option Clean := lookL [(0, f50l3), (1000000, f50l4)]
noncomputable abbrev f50i {ρ : Type} (N : Nat) (c : Code) (p : Plan) (σ : St) (K : KT ρ) : Option ρ := iCode f50G tab f50B N c p σ K
noncomputable def f50c1 := codeAt (bodyOf Try.f50) [0]
theorem f50t1 {ρ : Type} (N : Nat) (a0 : List (List Int × Int)) (b1 : List (List Int × Int)) (K : KT ρ) : f50i N f50c1 .n (f50s0 a0 b1) (joinK (some f50l1) K) =
  laws_eqTermS.Z1 N a0 b1 (fun a0 b1 => K .nrm (f50s1 a0 b1)) := by kernel_rfl
noncomputable def f50c3 := codeAt (bodyOf Try.f50) [1,0]
theorem f50t3 {ρ : Type} (N : Nat) (a0 : List (List Int × Int)) (b1 : List (List Int × Int)) (K : KT ρ) : f50i N f50c3 .n (f50s1 a0 b1) (joinK (some f50l1) K) =
  laws_eqTermS.Z3 N a0 b1 (fun a0 b1 => K .nrm (f50s1 a0 b1)) (fun t4 => K .ret (f50s4 t4)) := by kernel_rfl
noncomputable def f50c6 := codeAt (bodyOf Try.f50) [1,1,0,0]
theorem f50t6 {ρ : Type} (N : Nat) (a0 : List (List Int × Int)) (b1 : List (List Int × Int)) (K : KT ρ) : f50i N f50c6 .n (f50s1 a0 b1) (joinK (some f50l2) K) =
  laws_eqTermS.Z6 N a0 b1 (fun a0 b1 i5 => K .nrm (f50s2 a0 b1 i5)) := by kernel_rfl
noncomputable def f50c9 := codeAt (bodyOf Try.f50) [1,1,0,1,0,0]
theorem f50t9 {ρ : Type} (N : Nat) (a0 : List (List Int × Int)) (b1 : List (List Int × Int)) (i5 : Int) (K : KT ρ) : f50i N f50c9 .n (f50s2 a0 b1 i5) (joinK (some f50l2) K) =
  laws_eqTermS.Z9 N a0 b1 i5 (fun a0 b1 i5 => K .nrm (f50s2 a0 b1 i5)) (K (.exit 0) f50s3) (fun t4 => K .ret (f50s4 t4)) := by kernel_rfl
noncomputable def f50c8 := codeAt (bodyOf Try.f50) [1,1,0,1,0]
noncomputable def f50p8 : Plan := .mk none (some f50l2) .n .n
noncomputable abbrev f50w8 {ρ : Type} (N : Nat) (M : Nat) (σ : St) (K : KT ρ) : Option ρ := loopC (fun σ K => f50i N f50c9 .n σ K) f50l2 M σ K
theorem f50t8L {ρ : Type} (N : Nat) (K : KT ρ) : ∀ (M : Nat) (a0 : List (List Int × Int)) (b1 : List (List Int × Int)) (i5 : Int), f50w8 N M (f50s2 a0 b1 i5) K =
  laws_eqTermS.Z8L N (K (.exit 0) f50s3) (fun t4 => K .ret (f50s4 t4)) M a0 b1 i5
  | 0, _, _, _ => rfl
  | M + 1, a0, b1, i5 => viaRound (fun k => laws_eqTermS.Z9 N a0 b1 i5 k (K (.exit 0) f50s3) (fun t4 => K .ret (f50s4 t4))) (f50t9 N a0 b1 i5 (seqK (fun σ => f50w8 N M σ K) K)) (funext fun a0 => funext fun b1 => funext fun i5 => f50t8L N K M a0 b1 i5) (by kernel_rfl) (by kernel_rfl)
theorem f50t8 {ρ : Type} (N : Nat) (a0 : List (List Int × Int)) (b1 : List (List Int × Int)) (i5 : Int) (K : KT ρ) : f50i N f50c8 f50p8 (f50s2 a0 b1 i5) (joinK (some f50l3) K) =
  laws_eqTermS.Z8 N a0 b1 i5 (K (.exit 0) f50s3) (fun t4 => K .ret (f50s4 t4)) :=
  viaLoop (by kernel_rfl) (by kernel_rfl) (σ' := f50s2 a0 b1 i5) (by kernel_rfl) (f50t8L N (joinK (some f50l3) K) N a0 b1 i5) (by kernel_rfl)
noncomputable def f50c7 := codeAt (bodyOf Try.f50) [1,1,0,1]
noncomputable def f50p7 : Plan := .mk (some f50l3) none f50p8 .n
theorem f50t7 {ρ : Type} (N : Nat) (a0 : List (List Int × Int)) (b1 : List (List Int × Int)) (i5 : Int) (K : KT ρ) : f50i N f50c7 f50p7 (f50s2 a0 b1 i5) (joinK (some f50l3) K) =
  laws_eqTermS.Z7 N a0 b1 i5 (K .nrm f50s3) (fun t4 => K .ret (f50s4 t4)) :=
  viaBlock (by kernel_rfl) (by kernel_rfl) (f50t8 N a0 b1 i5 (blockK 0 (joinK (some f50l3) K))) (by kernel_rfl)
noncomputable def f50c5 := codeAt (bodyOf Try.f50) [1,1,0]
noncomputable def f50p5 : Plan := .mk (some f50l2) none .n f50p7
theorem f50t5 {ρ : Type} (N : Nat) (a0 : List (List Int × Int)) (b1 : List (List Int × Int)) (K : KT ρ) : f50i N f50c5 f50p5 (f50s1 a0 b1) (joinK (some f50l3) K) =
  laws_eqTermS.Z5 N a0 b1 (K .nrm f50s3) (fun t4 => K .ret (f50s4 t4)) :=
  viaSeq (fun k => laws_eqTermS.Z6 N a0 b1 k) (by kernel_rfl) (by kernel_rfl) (f50t6 N a0 b1 (seqK (fun σ => f50i N f50c7 f50p7 σ (joinK (some f50l3) K)) (joinK (some f50l3) K))) (funext fun a0 => funext fun b1 => funext fun i5 => f50t7 N a0 b1 i5 K) (by kernel_rfl) (by kernel_rfl)
noncomputable def f50c10 := codeAt (bodyOf Try.f50) [1,1,1]
theorem f50t10 {ρ : Type} (N : Nat)  (K : KT ρ) : f50i N f50c10 .n f50s3 (joinK (some f50lE) K) =
  laws_eqTermS.Z10 N (fun t4 => K .ret (f50s4 t4)) := by kernel_rfl
noncomputable def f50c4 := codeAt (bodyOf Try.f50) [1,1]
noncomputable def f50p4 : Plan := .mk (some f50l3) none f50p5 .n
theorem f50t4 {ρ : Type} (N : Nat) (a0 : List (List Int × Int)) (b1 : List (List Int × Int)) (K : KT ρ) : f50i N f50c4 f50p4 (f50s1 a0 b1) (joinK (some f50lE) K) =
  laws_eqTermS.Z4 N a0 b1 (fun t4 => K .ret (f50s4 t4)) :=
  viaSeq (fun k => laws_eqTermS.Z5 N a0 b1 k (fun t4 => K .ret (f50s4 t4))) (by kernel_rfl) (by kernel_rfl) (f50t5 N a0 b1 (seqK (fun σ => f50i N f50c10 .n σ (joinK (some f50lE) K)) (joinK (some f50lE) K))) (f50t10 N K) (by kernel_rfl) (by kernel_rfl)
noncomputable def f50c2 := codeAt (bodyOf Try.f50) [1]
noncomputable def f50p2 : Plan := .mk (some f50l1) none .n f50p4
theorem f50t2 {ρ : Type} (N : Nat) (a0 : List (List Int × Int)) (b1 : List (List Int × Int)) (K : KT ρ) : f50i N f50c2 f50p2 (f50s1 a0 b1) (joinK (some f50lE) K) =
  laws_eqTermS.Z2 N a0 b1 (fun t4 => K .ret (f50s4 t4)) :=
  viaSeq (fun k => laws_eqTermS.Z3 N a0 b1 k (fun t4 => K .ret (f50s4 t4))) (by kernel_rfl) (by kernel_rfl) (f50t3 N a0 b1 (seqK (fun σ => f50i N f50c4 f50p4 σ (joinK (some f50lE) K)) (joinK (some f50lE) K))) (funext fun a0 => funext fun b1 => f50t4 N a0 b1 K) (by kernel_rfl) (by kernel_rfl)
noncomputable def f50c0 := codeAt (bodyOf Try.f50) []
noncomputable def f50p0 : Plan := .mk (some f50l1) none .n f50p2
theorem f50t0 {ρ : Type} (N : Nat) (a0 : List (List Int × Int)) (b1 : List (List Int × Int)) (K : KT ρ) : f50i N f50c0 f50p0 (f50s0 a0 b1) (joinK (some f50lE) K) =
  laws_eqTermS.Z0 N a0 b1 (fun t4 => K .ret (f50s4 t4)) :=
  viaSeq (fun k => laws_eqTermS.Z1 N a0 b1 k) (by kernel_rfl) (by kernel_rfl) (f50t1 N a0 b1 (seqK (fun σ => f50i N f50c2 f50p2 σ (joinK (some f50lE) K)) (joinK (some f50lE) K))) (funext fun a0 => funext fun b1 => f50t2 N a0 b1 K) (by kernel_rfl) (by kernel_rfl)
theorem f50m (N : Nat) (a0 : List (List Int × Int)) (b1 : List (List Int × Int)) : f50i N f50c0 f50p0 (f50s0 a0 b1) (joinK (some f50lE) (finK tab f50sig Try.f50.results.toList)) = laws_eqTermS.Z0 N a0 b1 (fun t4 => some ((), (t4, ()))) :=
  (f50t0 N a0 b1 (finK tab f50sig Try.f50.results.toList)).trans (by kernel_rfl)
theorem f50ok (h : laws_eqTermS.Spec) : EntryOk Try.prog 50 e50 :=
  entry_of_code (sig := f50sig) (c := f50c0) (pl := f50p0) (je := (some f50lE)) (B := f50B) Try.func50 (by kernel_rfl) (by kernel_rfl) (by kernel_rfl) tabOk f50GOk (by kernel_rfl) (by kernel_rfl) (by kernel_rfl) (by kernel_rfl) fun X hb hp => by
    obtain ⟨a0, b1, _⟩ := X
    obtain ⟨N, h⟩ := h a0 b1 hb.1 hb.2.1
    exact ⟨N, (f50m N a0 b1).trans (h N (Nat.le_refl N))⟩
theorem e50ok : EntryOk Try.prog 50 e50 := f50ok laws_eqTermS.ok
end Go.Fw
set_option linter.unusedVariables false
set_option linter.unusedSimpArgs false
set_option maxRecDepth 100000
namespace Go.Fw
open Go.Proofs
/-! ### loop.example/g03115/laws.eqLaurent -/
noncomputable def f16sig : Sig := ⟨[⟨.pair (.int .i64) (.sl 59 (.pair (.sl 3 (.int .i64)) (.int .i64))), true, false⟩, ⟨.pair (.int .i64) (.sl 59 (.pair (.sl 3 (.int .i64)) (.int .i64))), true, false⟩], [⟨.bool, false, false⟩]⟩
noncomputable def e16 : Entry := ⟨f16sig, none, fun X => ((), ((laws_eqLaurent.g X.1 X.2.1), ()))⟩
noncomputable def f16G : Nat → Option Entry := addG (fun _ => none) 50 e50
theorem f16GOk : GOk Try.prog f16G := (GOk.nil).add e50ok (by kernel_rfl)
noncomputable def f16lE : Clean := ⟨[], [], [], [], []⟩
noncomputable def f16s0 (a0 : Int × List (List Int × Int)) (b1 : Int × List (List Int × Int)) : St := initSt f16sig.ps (a0, (b1, ()))
noncomputable def f16s1 (t4 : Bool) : St := stOf [(4, .c (.bool t4))] [] []
noncomputable def f16l1 : Clean := ⟨[4], [], [], [], []⟩
noncomputable def f16B : Nat → Option Clean := lookL [(1000000, f16l1)]
noncomputable abbrev f16i {ρ : Type} (N : Nat) (c : Code) (p : Plan) (σ : St) (K : KT ρ) : Option ρ := iCode f16G tab f16B N c p σ K
noncomputable def f16c0 := codeAt (bodyOf Try.f16) []
theorem f16t0 {ρ : Type} (N : Nat) (a0 : Int × List (List Int × Int)) (b1 : Int × List (List Int × Int)) (K : KT ρ) : f16i N f16c0 .n (f16s0 a0 b1) (joinK (some f16lE) K) =
  laws_eqLaurent.Z0 N a0 b1 (fun t4 => K .ret (f16s1 t4)) := by kernel_rfl
theorem f16m (N : Nat) (a0 : Int × List (List Int × Int)) (b1 : Int × List (List Int × Int)) : f16i N f16c0 .n (f16s0 a0 b1) (joinK (some f16lE) (finK tab f16sig Try.f16.results.toList)) = laws_eqLaurent.Z0 N a0 b1 (fun t4 => some ((), (t4, ()))) :=
  (f16t0 N a0 b1 (finK tab f16sig Try.f16.results.toList)).trans (by kernel_rfl)
theorem f16ok (h : laws_eqLaurent.Spec) : EntryOk Try.prog 16 e16 :=
  entry_of_code (sig := f16sig) (c := f16c0) (pl := .n) (je := (some f16lE)) (B := f16B) Try.func16 (by kernel_rfl) (by kernel_rfl) (by kernel_rfl) tabOk f16GOk (by kernel_rfl) (by kernel_rfl) (by kernel_rfl) (by kernel_rfl) fun X hb hp => by
    obtain ⟨a0, b1, _⟩ := X
    obtain ⟨N, h⟩ := h a0 b1 hb.1 hb.2.1
    exact ⟨N, (f16m N a0 b1).trans (h N (Nat.le_refl N))⟩
theorem e16ok : EntryOk Try.prog 16 e16 := f16ok laws_eqLaurent.ok
end Go.Fw
set_option linter.unusedVariables false
set_option linter.unusedSimpArgs false
set_option maxRecDepth 100000
namespace Go.Fw
open Go.Proofs
/-! ### loop.example/g03115/laws.markIntS -/
noncomputable def f23sig : Sig := ⟨[⟨.sl 3 (.int .i64), false, true⟩, ⟨.int .i64, false, false⟩], [⟨.int .i64, false, false⟩]⟩
noncomputable def e23 : Entry := ⟨f23sig, none, fun X => ((laws_markIntS.g X.1 X.2.1).1, ((laws_markIntS.g X.1 X.2.1).2, ()))⟩
noncomputable def f23G : Nat → Option Entry := (fun _ => none)
theorem f23GOk : GOk Try.prog f23G := GOk.nil
noncomputable def f23lE : Clean := ⟨[], [], [], [], []⟩
noncomputable def f23s0 (a0 : List Int) (k1 : Int) : St := initSt f23sig.ps (a0, (k1, ()))
noncomputable def f23s1 (a0 : List Int) (k1 : Int) : St := stOf [(0, .c (.own 1000000)), (1, .c (.int .i64 k1)), (100000, .c (.own 1000000))] [] [(1000000, (⟨3, .int .i64, a0, true, false⟩ : Row))]
noncomputable def f23l1 : Clean := ⟨[0, 1, 100000], [], [], [], [(⟨false, 0, 0⟩, 1000000)]⟩
noncomputable def f23s2 (a0 : List Int) (k1 : Int) (i5 : Int) : St := stOf [(0, .c (.own 1000000)), (1, .c (.int .i64 k1)), (5, .c (.int .i64 i5)), (100000, .c (.own 1000000))] [] [(1000000, (⟨3, .int .i64, a0, true, false⟩ : Row))]
noncomputable def f23l2 : Clean := ⟨[0, 1, 5, 100000], [], [], [], [(⟨false, 0, 0⟩, 1000000)]⟩
noncomputable def f23s3 (io100000 : List Int) (k1 : Int) : St := stOf [(1, .c (.int .i64 k1)), (100000, .c (.own 7400000))] [] [(7400000, (⟨3, .int .i64, io100000, true, false⟩ : Row))]
noncomputable def f23l3 : Clean := ⟨[1, 100000], [], [], [], [(⟨false, 100000, 0⟩, 7400000)]⟩
noncomputable def f23s4 (io100000 : List Int) (t4 : Int) : St := stOf [(4, .c (.int .i64 t4)), (100000, .c (.own 7400000))] [] [(7400000, (⟨3, .int .i64, io100000, true, false⟩ : Row))]
noncomputable def f23l4 : Clean := ⟨[4, 100000], [], [], [], [(⟨false, 100000, 0⟩, 7400000)]⟩
noncomputable def f23B : Nat → Option Clean := lookL [(0, f23l3), (1000000, f23l4)]
noncomputable abbrev f23i {ρ : Type} (N : Nat) (c : Code) (p : Plan) (σ : St) (K : KT ρ) : Option ρ := iCode f23G tab f23B N c p σ K
noncomputable def f23c1 := codeAt (bodyOf Try.f23) [0]
theorem f23t1 {ρ : Type} (N : Nat) (a0 : List Int) (k1 : Int) (K : KT ρ) : f23i N f23c1 .n (f23s0 a0 k1) (joinK (some f23l1) K) =
  laws_markIntS.Z1 N a0 k1 (fun a0 k1 => K .nrm (f23s1 a0 k1)) := by kernel_rfl
noncomputable def f23c4 := codeAt (bodyOf Try.f23) [1,0,0]
theorem f23t4 {ρ : Type} (N : Nat) (a0 : List Int) (k1 : Int) (K : KT ρ) : f23i N f23c4 .n (f23s1 a0 k1) (joinK (some f23l2) K) =
  laws_markIntS.Z4 N a0 k1 (fun a0 k1 i5 => K .nrm (f23s2 a0 k1 i5)) := by kernel_rfl
noncomputable def f23c7 := codeAt (bodyOf Try.f23) [1,0,1,0,0]
theorem f23t7 {ρ : Type} (N : Nat) (a0 : List Int) (k1 : Int) (i5 : Int) (K : KT ρ) : f23i N f23c7 .n (f23s2 a0 k1 i5) (joinK (some f23l2) K) =
  laws_markIntS.Z7 N a0 k1 i5 (fun a0 k1 i5 => K .nrm (f23s2 a0 k1 i5)) (fun io100000 k1 => K (.exit 0) (f23s3 io100000 k1)) := by kernel_rfl
noncomputable def f23c6 := codeAt (bodyOf Try.f23) [1,0,1,0]
noncomputable def f23p6 : Plan := .mk none (some f23l2) .n .n
noncomputable abbrev f23w6 {ρ : Type} (N : Nat) (M : Nat) (σ : St) (K : KT ρ) : Option ρ := loopC (fun σ K => f23i N f23c7 .n σ K) f23l2 M σ K
theorem f23t6L {ρ : Type} (N : Nat) (K : KT ρ) : ∀ (M : Nat) (a0 : List Int) (k1 : Int) (i5 : Int), f23w6 N M (f23s2 a0 k1 i5) K =
  laws_markIntS.Z6L N (fun io100000 k1 => K (.exit 0) (f23s3 io100000 k1)) M a0 k1 i5
  | 0, _, _, _ => rfl
  | M + 1, a0, k1, i5 => viaRound (fun k => laws_markIntS.Z7 N a0 k1 i5 k (fun io100000 k1 => K (.exit 0) (f23s3 io100000 k1))) (f23t7 N a0 k1 i5 (seqK (fun σ => f23w6 N M σ K) K)) (funext fun a0 => funext fun k1 => funext fun i5 => f23t6L N K M a0 k1 i5) (by kernel_rfl) (by kernel_rfl)
theorem f23t6 {ρ : Type} (N : Nat) (a0 : List Int) (k1 : Int) (i5 : Int) (K : KT ρ) : f23i N f23c6 f23p6 (f23s2 a0 k1 i5) (joinK (some f23l3) K) =
  laws_markIntS.Z6 N a0 k1 i5 (fun io100000 k1 => K (.exit 0) (f23s3 io100000 k1)) :=
  viaLoop (by kernel_rfl) (by kernel_rfl) (σ' := f23s2 a0 k1 i5) (by kernel_rfl) (f23t6L N (joinK (some f23l3) K) N a0 k1 i5) (by kernel_rfl)
noncomputable def f23c5 := codeAt (bodyOf Try.f23) [1,0,1]
noncomputable def f23p5 : Plan := .mk (some f23l3) none f23p6 .n
theorem f23t5 {ρ : Type} (N : Nat) (a0 : List Int) (k1 : Int) (i5 : Int) (K : KT ρ) : f23i N f23c5 f23p5 (f23s2 a0 k1 i5) (joinK (some f23l3) K) =
  laws_markIntS.Z5 N a0 k1 i5 (fun io100000 k1 => K .nrm (f23s3 io100000 k1)) :=
  viaBlock (by kernel_rfl) (by kernel_rfl) (f23t6 N a0 k1 i5 (blockK 0 (joinK (some f23l3) K))) (by kernel_rfl)
noncomputable def f23c3 := codeAt (bodyOf Try.f23) [1,0]
noncomputable def f23p3 : Plan := .mk (some f23l2) none .n f23p5
theorem f23t3 {ρ : Type} (N : Nat) (a0 : List Int) (k1 : Int) (K : KT ρ) : f23i N f23c3 f23p3 (f23s1 a0 k1) (joinK (some f23l3) K) =
  laws_markIntS.Z3 N a0 k1 (fun io100000 k1 => K .nrm (f23s3 io100000 k1)) :=
  viaSeq (fun k => laws_markIntS.Z4 N a0 k1 k) (by kernel_rfl) (by kernel_rfl) (f23t4 N a0 k1 (seqK (fun σ => f23i N f23c5 f23p5 σ (joinK (some f23l3) K)) (joinK (some f23l3) K))) (funext fun a0 => funext fun k1 => funext fun i5 => f23t5 N a0 k1 i5 K) (by kernel_rfl) (by kernel_rfl)
noncomputable def f23c8 := codeAt (bodyOf Try.f23) [1,1]
theorem f23t8 {ρ : Type} (N : Nat) (io100000 : List Int) (k1 : Int) (K : KT ρ) : f23i N f23c8 .n (f23s3 io100000 k1) (joinK (some f23lE) K) =
  laws_markIntS.Z8 N io100000 k1 (fun io100000 t4 => K .ret (f23s4 io100000 t4)) := by kernel_rfl
noncomputable def f23c2 := codeAt (bodyOf Try.f23) [1]
noncomputable def f23p2 : Plan := .mk (some f23l3) none f23p3 .n
theorem f23t2 {ρ : Type} (N : Nat) (a0 : List Int) (k1 : Int) (K : KT ρ) : f23i N f23c2 f23p2 (f23s1 a0 k1) (joinK (some f23lE) K) =
  laws_markIntS.Z2 N a0 k1 (fun io100000 t4 => K .ret (f23s4 io100000 t4)) :=
  viaSeq (fun k => laws_markIntS.Z3 N a0 k1 k) (by kernel_rfl) (by kernel_rfl) (f23t3 N a0 k1 (seqK (fun σ => f23i N f23c8 .n σ (joinK (some f23lE) K)) (joinK (some f23lE) K))) (funext fun io100000 => funext fun k1 => f23t8 N io100000 k1 K) (by kernel_rfl) (by kernel_rfl)
noncomputable def f23c0 := codeAt (bodyOf Try.f23) []
noncomputable def f23p0 : Plan := .mk (some f23l1) none .n f23p2
theorem f23t0 {ρ : Type} (N : Nat) (a0 : List Int) (k1 : Int) (K : KT ρ) : f23i N f23c0 f23p0 (f23s0 a0 k1) (joinK (some f23lE) K) =
  laws_markIntS.Z0 N a0 k1 (fun io100000 t4 => K .ret (f23s4 io100000 t4)) :=
  viaSeq (fun k => laws_markIntS.Z1 N a0 k1 k) (by kernel_rfl) (by kernel_rfl) (f23t1 N a0 k1 (seqK (fun σ => f23i N f23c2 f23p2 σ (joinK (some f23lE) K)) (joinK (some f23lE) K))) (funext fun a0 => funext fun k1 => f23t2 N a0 k1 K) (by kernel_rfl) (by kernel_rfl)
theorem f23m (N : Nat) (a0 : List Int) (k1 : Int) : f23i N f23c0 f23p0 (f23s0 a0 k1) (joinK (some f23lE) (finK tab f23sig Try.f23.results.toList)) = laws_markIntS.Z0 N a0 k1 (fun io100000 t4 => some (io100000, (t4, ()))) :=
  (f23t0 N a0 k1 (finK tab f23sig Try.f23.results.toList)).trans (by kernel_rfl)
theorem f23ok (h : laws_markIntS.Spec) : EntryOk Try.prog 23 e23 :=
  entry_of_code (sig := f23sig) (c := f23c0) (pl := f23p0) (je := (some f23lE)) (B := f23B) Try.func23 (by kernel_rfl) (by kernel_rfl) (by kernel_rfl) tabOk f23GOk (by kernel_rfl) (by kernel_rfl) (by kernel_rfl) (by kernel_rfl) fun X hb hp => by
    obtain ⟨a0, k1, _⟩ := X
    obtain ⟨N, h⟩ := h a0 k1 hb.1
    exact ⟨N, (f23m N a0 k1).trans (h N (Nat.le_refl N))⟩
theorem e23ok : EntryOk Try.prog 23 e23 := f23ok laws_markIntS.ok
end Go.Fw
set_option linter.unusedVariables false
set_option linter.unusedSimpArgs false
set_option maxRecDepth 100000
namespace Go.Fw
open Go.Proofs
/-! ### loop.example/g03115/laws.markTermS -/
noncomputable def f51sig : Sig := ⟨[⟨.sl 59 (.pair (.sl 3 (.int .i64)) (.int .i64)), false, true⟩, ⟨.int .i64, false, false⟩], [⟨.int .i64, false, false⟩]⟩
noncomputable def e51 : Entry := ⟨f51sig, none, fun X => ((laws_markTermS.g X.1 X.2.1).1, ((laws_markTermS.g X.1 X.2.1).2, ()))⟩
noncomputable def f51G : Nat → Option Entry := addG (fun _ => none) 23 e23
theorem f51GOk : GOk Try.prog f51G := (GOk.nil).add e23ok (by kernel_rfl)
noncomputable def f51lE : Clean := ⟨[], [], [], [], []⟩
noncomputable def f51s0 (a0 : List (List Int × Int)) (k1 : Int) : St := initSt f51sig.ps (a0, (k1, ()))
noncomputable def f51s1 (a0 : List (List Int × Int)) (k1 : Int) : St := stOf [(0, .c (.own 1000000)), (1, .c (.int .i64 k1)), (100000, .c (.own 1000000))] [] [(1000000, (⟨59, .pair (.sl 3 (.int .i64)) (.int .i64), a0, true, false⟩ : Row))]
noncomputable def f51l1 : Clean := ⟨[0, 1, 100000], [], [], [], [(⟨false, 0, 0⟩, 1000000)]⟩
noncomputable def f51s2 (a0 : List (List Int × Int)) (k1 : Int) (i5 : Int) : St := stOf [(0, .c (.own 1000000)), (1, .c (.int .i64 k1)), (5, .c (.int .i64 i5)), (100000, .c (.own 1000000))] [] [(1000000, (⟨59, .pair (.sl 3 (.int .i64)) (.int .i64), a0, true, false⟩ : Row))]
noncomputable def f51l2 : Clean := ⟨[0, 1, 5, 100000], [], [], [], [(⟨false, 0, 0⟩, 1000000)]⟩
noncomputable def f51s3 (io100000 : List (List Int × Int)) (k1 : Int) : St := stOf [(1, .c (.int .i64 k1)), (100000, .c (.own 7400000))] [] [(7400000, (⟨59, .pair (.sl 3 (.int .i64)) (.int .i64), io100000, true, false⟩ : Row))]
noncomputable def f51l3 : Clean := ⟨[1, 100000], [], [], [], [(⟨false, 100000, 0⟩, 7400000)]⟩
noncomputable def f51s4 (io100000 : List (List Int × Int)) (t4 : Int) : St := stOf [(4, .c (.int .i64 t4)), (100000, .c (.own 7400000))] [] [(7400000, (⟨59, .pair (.sl 3 (.int .i64)) (.int .i64), io100000, true, false⟩ : Row))]
noncomputable def f51l4 : Clean := ⟨[4, 100000], [], [], [], [(⟨false, 100000, 0⟩, 7400000)]⟩
noncomputable def f51B : Nat → Option Clean := lookL [(0, f51l3), (1000000, f51l4)]
noncomputable abbrev f51i {ρ : Type} (N : Nat) (c : Code) (p : Plan) (σ : St) (K : KT ρ) : Option ρ := iCode f51G tab f51B N c p σ K
noncomputable def f51c1 := codeAt (bodyOf Try.f51) [0]
theorem f51t1 {ρ : Type} (N : Nat) (a0 : List (List Int × Int)) (k1 : Int) (K : KT ρ) : f51i N f51c1 .n (f51s0 a0 k1) (joinK (some f51l1) K) =
  laws_markTermS.Z1 N a0 k1 (fun a0 k1 => K .nrm (f51s1 a0 k1)) := by kernel_rfl
noncomputable def f51c4 := codeAt (bodyOf Try.f51) [1,0,0]
theorem f51t4 {ρ : Type} (N : Nat) (a0 : List (List Int × Int)) (k1 : Int) (K : KT ρ) : f51i N f51c4 .n (f51s1 a0 k1) (joinK (some f51l2) K) =
  laws_markTermS.Z4 N a0 k1 (fun a0 k1 i5 => K .nrm (f51s2 a0 k1 i5)) := by kernel_rfl
noncomputable def f51c7 := codeAt (bodyOf Try.f51) [1,0,1,0,0]
theorem f51t7 {ρ : Type} (N : Nat) (a0 : List (List Int × Int)) (k1 : Int) (i5 : Int) (K : KT ρ) : f51i N f51c7 .n (f51s2 a0 k1 i5) (joinK (some f51l2) K) =
  laws_markTermS.Z7 N a0 k1 i5 (fun a0 k1 i5 => K .nrm (f51s2 a0 k1 i5)) (fun io100000 k1 => K (.exit 0) (f51s3 io100000 k1)) := by kernel_rfl
noncomputable def f51c6 := codeAt (bodyOf Try.f51) [1,0,1,0]
noncomputable def f51p6 : Plan := .mk none (some f51l2) .n .n
noncomputable abbrev f51w6 {ρ : Type} (N : Nat) (M : Nat) (σ : St) (K : KT ρ) : Option ρ := loopC (fun σ K => f51i N f51c7 .n σ K) f51l2 M σ K
theorem f51t6L {ρ : Type} (N : Nat) (K : KT ρ) : ∀ (M : Nat) (a0 : List (List Int × Int)) (k1 : Int) (i5 : Int), f51w6 N M (f51s2 a0 k1 i5) K =
  laws_markTermS.Z6L N (fun io100000 k1 => K (.exit 0) (f51s3 io100000 k1)) M a0 k1 i5
  | 0, _, _, _ => rfl
  | M + 1, a0, k1, i5 => viaRound (fun k => laws_markTermS.Z7 N a0 k1 i5 k (fun io100000 k1 => K (.exit 0) (f51s3 io100000 k1))) (f51t7 N a0 k1 i5 (seqK (fun σ => f51w6 N M σ K) K)) (funext fun a0 => funext fun k1 => funext fun i5 => f51t6L N K M a0 k1 i5) (by kernel_rfl) (by kernel_rfl)
theorem f51t6 {ρ : Type} (N : Nat) (a0 : List (List Int × Int)) (k1 : Int) (i5 : Int) (K : KT ρ) : f51i N f51c6 f51p6 (f51s2 a0 k1 i5) (joinK (some f51l3) K) =
  laws_markTermS.Z6 N a0 k1 i5 (fun io100000 k1 => K (.exit 0) (f51s3 io100000 k1)) :=
  viaLoop (by kernel_rfl) (by kernel_rfl) (σ' := f51s2 a0 k1 i5) (by kernel_rfl) (f51t6L N (joinK (some f51l3) K) N a0 k1 i5) (by kernel_rfl)
noncomputable def f51c5 := codeAt (bodyOf Try.f51) [1,0,1]
noncomputable def f51p5 : Plan := .mk (some f51l3) none f51p6 .n
theorem f51t5 {ρ : Type} (N : Nat) (a0 : List (List Int × Int)) (k1 : Int) (i5 : Int) (K : KT ρ) : f51i N f51c5 f51p5 (f51s2 a0 k1 i5) (joinK (some f51l3) K) =
  laws_markTermS.Z5 N a0 k1 i5 (fun io100000 k1 => K .nrm (f51s3 io100000 k1)) :=
  viaBlock (by kernel_rfl) (by kernel_rfl) (f51t6 N a0 k1 i5 (blockK 0 (joinK (some f51l3) K))) (by kernel_rfl)
noncomputable def f51c3 := codeAt (bodyOf Try.f51) [1,0]
noncomputable def f51p3 : Plan := .mk (some f51l2) none .n f51p5
theorem f51t3 {ρ : Type} (N : Nat) (a0 : List (List Int × Int)) (k1 : Int) (K : KT ρ) : f51i N f51c3 f51p3 (f51s1 a0 k1) (joinK (some f51l3) K) =
  laws_markTermS.Z3 N a0 k1 (fun io100000 k1 => K .nrm (f51s3 io100000 k1)) :=
  viaSeq (fun k => laws_markTermS.Z4 N a0 k1 k) (by kernel_rfl) (by kernel_rfl) (f51t4 N a0 k1 (seqK (fun σ => f51i N f51c5 f51p5 σ (joinK (some f51l3) K)) (joinK (some f51l3) K))) (funext fun a0 => funext fun k1 => funext fun i5 => f51t5 N a0 k1 i5 K) (by kernel_rfl) (by kernel_rfl)
noncomputable def f51c8 := codeAt (bodyOf Try.f51) [1,1]
theorem f51t8 {ρ : Type} (N : Nat) (io100000 : List (List Int × Int)) (k1 : Int) (K : KT ρ) : f51i N f51c8 .n (f51s3 io100000 k1) (joinK (some f51lE) K) =
  laws_markTermS.Z8 N io100000 k1 (fun io100000 t4 => K .ret (f51s4 io100000 t4)) := by kernel_rfl
noncomputable def f51c2 := codeAt (bodyOf Try.f51) [1]
noncomputable def f51p2 : Plan := .mk (some f51l3) none f51p3 .n
theorem f51t2 {ρ : Type} (N : Nat) (a0 : List (List Int × Int)) (k1 : Int) (K : KT ρ) : f51i N f51c2 f51p2 (f51s1 a0 k1) (joinK (some f51lE) K) =
  laws_markTermS.Z2 N a0 k1 (fun io100000 t4 => K .ret (f51s4 io100000 t4)) :=
  viaSeq (fun k => laws_markTermS.Z3 N a0 k1 k) (by kernel_rfl) (by kernel_rfl) (f51t3 N a0 k1 (seqK (fun σ => f51i N f51c8 .n σ (joinK (some f51lE) K)) (joinK (some f51lE) K))) (funext fun io100000 => funext fun k1 => f51t8 N io100000 k1 K) (by kernel_rfl) (by kernel_rfl)
noncomputable def f51c0 := codeAt (bodyOf Try.f51) []
noncomputable def f51p0 : Plan := .mk (some f51l1) none .n f51p2
theorem f51t0 {ρ : Type} (N : Nat) (a0 : List (List Int × Int)) (k1 : Int) (K : KT ρ) : f51i N f51c0 f51p0 (f51s0 a0 k1) (joinK (some f51lE) K) =
  laws_markTermS.Z0 N a0 k1 (fun io100000 t4 => K .ret (f51s4 io100000 t4)) :=
  viaSeq (fun k => laws_markTermS.Z1 N a0 k1 k) (by kernel_rfl) (by kernel_rfl) (f51t1 N a0 k1 (seqK (fun σ => f51i N f51c2 f51p2 σ (joinK (some f51lE) K)) (joinK (some f51lE) K))) (funext fun a0 => funext fun k1 => f51t2 N a0 k1 K) (by kernel_rfl) (by kernel_rfl)
theorem f51m (N : Nat) (a0 : List (List Int × Int)) (k1 : Int) : f51i N f51c0 f51p0 (f51s0 a0 k1) (joinK (some f51lE) (finK tab f51sig Try.f51.results.toList)) = laws_markTermS.Z0 N a0 k1 (fun io100000 t4 => some (io100000, (t4, ()))) :=
  (f51t0 N a0 k1 (finK tab f51sig Try.f51.results.toList)).trans (by kernel_rfl)
theorem f51ok (h : laws_markTermS.Spec) : EntryOk Try.prog 51 e51 :=
  entry_of_code (sig := f51sig) (c := f51c0) (pl := f51p0) (je := (some f51lE)) (B := f51B) Try.func51 (by kernel_rfl) (by kernel_rfl) (by kernel_rfl) tabOk f51GOk (by kernel_rfl) (by kernel_rfl) (by kernel_rfl) (by kernel_rfl) fun X hb hp => by
    obtain ⟨a0, k1, _⟩ := X
    obtain ⟨N, h⟩ := h a0 k1 hb.1
    exact ⟨N, (f51m N a0 k1).trans (h N (Nat.le_refl N))⟩
theorem e51ok : EntryOk Try.prog 51 e51 := f51ok laws_markTermS.ok
end Go.Fw
set_option linter.unusedVariables false
set_option linter.unusedSimpArgs false
set_option maxRecDepth 100000
namespace Go.Fw
open Go.Proofs
/-! ### loop.example/g03115/laws.markLaurent -/
noncomputable def f17sig : Sig := ⟨[⟨.pair (.int .i64) (.sl 59 (.pair (.sl 3 (.int .i64)) (.int .i64))), true, true⟩, ⟨.int .i64, false, false⟩], [⟨.int .i64, false, false⟩]⟩
noncomputable def e17 : Entry := ⟨f17sig, none, fun X => ((laws_markLaurent.g X.1 X.2.1).1, ((laws_markLaurent.g X.1 X.2.1).2, ()))⟩
noncomputable def f17G : Nat → Option Entry := addG (fun _ => none) 51 e51
theorem f17GOk : GOk Try.prog f17G := (GOk.nil).add e51ok (by kernel_rfl)
noncomputable def f17lE : Clean := ⟨[], [], [], [], []⟩
noncomputable def f17s0 (a0 : Int × List (List Int × Int)) (k1 : Int) : St := initSt f17sig.ps (a0, (k1, ()))
noncomputable def f17s1 (io100000_1 : List (List Int × Int)) (t4 : Int) (io100000_0 : Int) : St := stOf [(4, .c (.int .i64 t4)), (100000, .agg [.int .i64 io100000_0, .own 7400001])] [] [(7400001, (⟨59, .pair (.sl 3 (.int .i64)) (.int .i64), io100000_1, true, false⟩ : Row))]
noncomputable def f17l1 : Clean := ⟨[4, 100000], [], [], [], [(⟨false, 100000, 1⟩, 7400001)]⟩
noncomputable def f17B : Nat → Option Clean := lookL [(1000000, f17l1)]
noncomputable abbrev f17i {ρ : Type} (N : Nat) (c : Code) (p : Plan) (σ : St) (K : KT ρ) : Option ρ := iCode f17G tab f17B N c p σ K
noncomputable def f17c0 := codeAt (bodyOf Try.f17) []
theorem f17t0 {ρ : Type} (N : Nat) (a0 : Int × List (List Int × Int)) (k1 : Int) (K : KT ρ) : f17i N f17c0 .n (f17s0 a0 k1) (joinK (some f17lE) K) =
  laws_markLaurent.Z0 N a0 k1 (fun io100000_1 t4 io100000_0 => K .ret (f17s1 io100000_1 t4 io100000_0)) := by kernel_rfl
theorem f17m (N : Nat) (a0 : Int × List (List Int × Int)) (k1 : Int) : f17i N f17c0 .n (f17s0 a0 k1) (joinK (some f17lE) (finK tab f17sig Try.f17.results.toList)) = laws_markLaurent.Z0 N a0 k1 (fun io100000_1 t4 io100000_0 => some ((io100000_0, io100000_1), (t4, ()))) :=
  (f17t0 N a0 k1 (finK tab f17sig Try.f17.results.toList)).trans (by kernel_rfl)
theorem f17ok (h : laws_markLaurent.Spec) : EntryOk Try.prog 17 e17 :=
  entry_of_code (sig := f17sig) (c := f17c0) (pl := .n) (je := (some f17lE)) (B := f17B) Try.func17 (by kernel_rfl) (by kernel_rfl) (by kernel_rfl) tabOk f17GOk (by kernel_rfl) (by kernel_rfl) (by kernel_rfl) (by kernel_rfl) fun X hb hp => by
    obtain ⟨a0, k1, _⟩ := X
    obtain ⟨N, h⟩ := h a0 k1 hb.1
    exact ⟨N, (f17m N a0 k1).trans (h N (Nat.le_refl N))⟩
theorem e17ok : EntryOk Try.prog 17 e17 := f17ok laws_markLaurent.ok
end Go.Fw
set_option linter.unusedVariables false
set_option linter.unusedSimpArgs false
set_option maxRecDepth 100000
namespace Go.Fw
open Go.Proofs
/-! ### loop.example/g03115/laws.heldIntS -/
noncomputable def f38sig : Sig := ⟨[⟨.sl 3 (.int .i64), false, false⟩, ⟨.int .i64, false, false⟩], [⟨.int .i64, false, false⟩]⟩
noncomputable def e38 : Entry := ⟨f38sig, none, fun X => ((), ((laws_heldIntS.g X.1 X.2.1), ()))⟩
noncomputable def f38G : Nat → Option Entry := (fun _ => none)
theorem f38GOk : GOk Try.prog f38G := GOk.nil
noncomputable def f38lE : Clean := ⟨[], [], [], [], []⟩
noncomputable def f38s0 (a0 : List Int) (k1 : Int) : St := initSt f38sig.ps (a0, (k1, ()))
noncomputable def f38s1 (a0 : List Int) (k1 : Int) : St := stOf [(0, .c (.sn 3 (.int .i64) a0 none)), (1, .c (.int .i64 k1))] [] []
noncomputable def f38l1 : Clean := ⟨[0, 1], [], [], [], []⟩
noncomputable def f38s2 (a0 : List Int) (k1 : Int) (i5 : Int) : St := stOf [(0, .c (.sn 3 (.int .i64) a0 none)), (1, .c (.int .i64 k1)), (5, .c (.int .i64 i5))] [] []
noncomputable def f38l2 : Clean := ⟨[0, 1, 5], [], [], [], []⟩
noncomputable def f38s3 (k1 : Int) : St := stOf [(1, .c (.int .i64 k1))] [] []
noncomputable def f38l3 : Clean := ⟨[1], [], [], [], []⟩
noncomputable def f38s4 (t4 : Int) : St := stOf [(4, .c (.int .i64 t4))] [] []
noncomputable def f38l4 : Clean := ⟨[4], [], [], [], []⟩
noncomputable def f38B : Nat → Option Clean := lookL [(0, f38l3), (1000000, f38l4)]
noncomputable abbrev f38i {ρ : Type} (N : Nat) (c : Code) (p : Plan) (σ : St) (K : KT ρ) : Option ρ := iCode f38G tab f38B N c p σ K
noncomputable def f38c1 := codeAt (bodyOf Try.f38) [0]
theorem f38t1 {ρ : Type} (N : Nat) (a0 : List Int) (k1 : Int) (K : KT ρ) : f38i N f38c1 .n (f38s0 a0 k1) (joinK (some f38l1) K) =
  laws_heldIntS.Z1 N a0 k1 (fun a0 k1 => K .nrm (f38s1 a0 k1)) := by kernel_rfl
noncomputable def f38c4 := codeAt (bodyOf Try.f38) [1,0,0]
theorem f38t4 {ρ : Type} (N : Nat) (a0 : List Int) (k1 : Int) (K : KT ρ) : f38i N f38c4 .n (f38s1 a0 k1) (joinK (some f38l2) K) =
  laws_heldIntS.Z4 N a0 k1 (fun a0 k1 i5 => K .nrm (f38s2 a0 k1 i5)) := by kernel_rfl
noncomputable def f38c7 := codeAt (bodyOf Try.f38) [1,0,1,0,0]
theorem f38t7 {ρ : Type} (N : Nat) (a0 : List Int) (k1 : Int) (i5 : Int) (K : KT ρ) : f38i N f38c7 .n (f38s2 a0 k1 i5) (joinK (some f38l2) K) =
  laws_heldIntS.Z7 N a0 k1 i5 (fun a0 k1 i5 => K .nrm (f38s2 a0 k1 i5)) (fun k1 => K (.exit 0) (f38s3 k1)) (fun t4 => K .ret (f38s4 t4)) := by kernel_rfl
noncomputable def f38c6 := codeAt (bodyOf Try.f38) [1,0,1,0]
noncomputable def f38p6 : Plan := .mk none (some f38l2) .n .n
noncomputable abbrev f38w6 {ρ : Type} (N : Nat) (M : Nat) (σ : St) (K : KT ρ) : Option ρ := loopC (fun σ K => f38i N f38c7 .n σ K) f38l2 M σ K
theorem f38t6L {ρ : Type} (N : Nat) (K : KT ρ) : ∀ (M : Nat) (a0 : List Int) (k1 : Int) (i5 : Int), f38w6 N M (f38s2 a0 k1 i5) K =
  laws_heldIntS.Z6L N (fun k1 => K (.exit 0) (f38s3 k1)) (fun t4 => K .ret (f38s4 t4)) M a0 k1 i5
  | 0, _, _, _ => rfl
  | M + 1, a0, k1, i5 => viaRound (fun k => laws_heldIntS.Z7 N a0 k1 i5 k (fun k1 => K (.exit 0) (f38s3 k1)) (fun t4 => K .ret (f38s4 t4))) (f38t7 N a0 k1 i5 (seqK (fun σ => f38w6 N M σ K) K)) (funext fun a0 => funext fun k1 => funext fun i5 => f38t6L N K M a0 k1 i5) (by kernel_rfl) (by kernel_rfl)
theorem f38t6 {ρ : Type} (N : Nat) (a0 : List Int) (k1 : Int) (i5 : Int) (K : KT ρ) : f38i N f38c6 f38p6 (f38s2 a0 k1 i5) (joinK (some f38l3) K) =
  laws_heldIntS.Z6 N a0 k1 i5 (fun k1 => K (.exit 0) (f38s3 k1)) (fun t4 => K .ret (f38s4 t4)) :=
  viaLoop (by kernel_rfl) (by kernel_rfl) (σ' := f38s2 a0 k1 i5) (by kernel_rfl) (f38t6L N (joinK (some f38l3) K) N a0 k1 i5) (by kernel_rfl)
noncomputable def f38c5 := codeAt (bodyOf Try.f38) [1,0,1]
noncomputable def f38p5 : Plan := .mk (some f38l3) none f38p6 .n
theorem f38t5 {ρ : Type} (N : Nat) (a0 : List Int) (k1 : Int) (i5 : Int) (K : KT ρ) : f38i N f38c5 f38p5 (f38s2 a0 k1 i5) (joinK (some f38l3) K) =
  laws_heldIntS.Z5 N a0 k1 i5 (fun k1 => K .nrm (f38s3 k1)) (fun t4 => K .ret (f38s4 t4)) :=
  viaBlock (by kernel_rfl) (by kernel_rfl) (f38t6 N a0 k1 i5 (blockK 0 (joinK (some f38l3) K))) (by kernel_rfl)
noncomputable def f38c3 := codeAt (bodyOf Try.f38) [1,0]
noncomputable def f38p3 : Plan := .mk (some f38l2) none .n f38p5
theorem f38t3 {ρ : Type} (N : Nat) (a0 : List Int) (k1 : Int) (K : KT ρ) : f38i N f38c3 f38p3 (f38s1 a0 k1) (joinK (some f38l3) K) =
  laws_heldIntS.Z3 N a0 k1 (fun k1 => K .nrm (f38s3 k1)) (fun t4 => K .ret (f38s4 t4)) :=
  viaSeq (fun k => laws_heldIntS.Z4 N a0 k1 k) (by kernel_rfl) (by kernel_rfl) (f38t4 N a0 k1 (seqK (fun σ => f38i N f38c5 f38p5 σ (joinK (some f38l3) K)) (joinK (some f38l3) K))) (funext fun a0 => funext fun k1 => funext fun i5 => f38t5 N a0 k1 i5 K) (by kernel_rfl) (by kernel_rfl)
noncomputable def f38c8 := codeAt (bodyOf Try.f38) [1,1]
theorem f38t8 {ρ : Type} (N : Nat) (k1 : Int) (K : KT ρ) : f38i N f38c8 .n (f38s3 k1) (joinK (some f38lE) K) =
  laws_heldIntS.Z8 N k1 (fun t4 => K .ret (f38s4 t4)) := by kernel_rfl
noncomputable def f38c2 := codeAt (bodyOf Try.f38) [1]
noncomputable def f38p2 : Plan := .mk (some f38l3) none f38p3 .n
theorem f38t2 {ρ : Type} (N : Nat) (a0 : List Int) (k1 : Int) (K : KT ρ) : f38i N f38c2 f38p2 (f38s1 a0 k1) (joinK (some f38lE) K) =
  laws_heldIntS.Z2 N a0 k1 (fun t4 => K .ret (f38s4 t4)) :=
  viaSeq (fun k => laws_heldIntS.Z3 N a0 k1 k (fun t4 => K .ret (f38s4 t4))) (by kernel_rfl) (by kernel_rfl) (f38t3 N a0 k1 (seqK (fun σ => f38i N f38c8 .n σ (joinK (some f38lE) K)) (joinK (some f38lE) K))) (funext fun k1 => f38t8 N k1 K) (by kernel_rfl) (by kernel_rfl)
noncomputable def f38c0 := codeAt (bodyOf Try.f38) []
noncomputable def f38p0 : Plan := .mk (some f38l1) none .n f38p2
theorem f38t0 {ρ : Type} (N : Nat) (a0 : List Int) (k1 : Int) (K : KT ρ) : f38i N f38c0 f38p0 (f38s0 a0 k1) (joinK (some f38lE) K) =
  laws_heldIntS.Z0 N a0 k1 (fun t4 => K .ret (f38s4 t4)) :=
  viaSeq (fun k => laws_heldIntS.Z1 N a0 k1 k) (by kernel_rfl) (by kernel_rfl) (f38t1 N a0 k1 (seqK (fun σ => f38i N f38c2 f38p2 σ (joinK (some f38lE) K)) (joinK (some f38lE) K))) (funext fun a0 => funext fun k1 => f38t2 N a0 k1 K) (by kernel_rfl) (by kernel_rfl)
theorem f38m (N : Nat) (a0 : List Int) (k1 : Int) : f38i N f38c0 f38p0 (f38s0 a0 k1) (joinK (some f38lE) (finK tab f38sig Try.f38.results.toList)) = laws_heldIntS.Z0 N a0 k1 (fun t4 => some ((), (t4, ()))) :=
  (f38t0 N a0 k1 (finK tab f38sig Try.f38.results.toList)).trans (by kernel_rfl)
theorem f38ok (h : laws_heldIntS.Spec) : EntryOk Try.prog 38 e38 :=
  entry_of_code (sig := f38sig) (c := f38c0) (pl := f38p0) (je := (some f38lE)) (B := f38B) Try.func38 (by kernel_rfl) (by kernel_rfl) (by kernel_rfl) tabOk f38GOk (by kernel_rfl) (by kernel_rfl) (by kernel_rfl) (by kernel_rfl) fun X hb hp => by
    obtain ⟨a0, k1, _⟩ := X
    obtain ⟨N, h⟩ := h a0 k1 hb.1
    exact ⟨N, (f38m N a0 k1).trans (h N (Nat.le_refl N))⟩
theorem e38ok : EntryOk Try.prog 38 e38 := f38ok laws_heldIntS.ok
end Go.Fw
set_option linter.unusedVariables false
set_option linter.unusedSimpArgs false
set_option maxRecDepth 100000
namespace Go.Fw
open Go.Proofs
/-! ### loop.example/g03115/laws.FnExactDenominatorOf -/
noncomputable def f11sig : Sig := ⟨[⟨.pair (.int .i64) (.sl 79 (.pair (.sl 3 (.int .i64)) (.int .i64))), true, false⟩], [⟨.bool, false, false⟩]⟩
noncomputable def e11 : Entry := ⟨f11sig, none, fun X => ((), ((laws_FnExactDenominatorOf.g X.1), ()))⟩
noncomputable def f11G : Nat → Option Entry := addG (addG (addG (addG (addG (addG (addG (addG (addG (fun _ => none) 16 e16) 17 e17) 22 e22) 23 e23) 24 e24) 26 e26) 38 e38) 41 e41) 42 e42
theorem f11GOk : GOk Try.prog f11G := (((((((((GOk.nil).add e16ok (by kernel_rfl)).add e17ok (by kernel_rfl)).add e22ok (by kernel_rfl)).add e23ok (by kernel_rfl)).add e24ok (by kernel_rfl)).add e26ok (by kernel_rfl)).add e38ok (by kernel_rfl)).add e41ok (by kernel_rfl)).add e42ok (by kernel_rfl)
noncomputable def f11lE : Clean := ⟨[], [], [], [], []⟩
noncomputable def f11s0 (aF0 : Int × List (List Int × Int)) : St := initSt f11sig.ps (aF0, ())
noncomputable def f11s1 (t2 : Bool) : St := stOf [(2, .c (.bool t2))] [] []
noncomputable def f11l1 : Clean := ⟨[2], [], [], [], []⟩
noncomputable def f11B : Nat → Option Clean := lookL [(1000000, f11l1)]
noncomputable abbrev f11i {ρ : Type} (N : Nat) (c : Code) (p : Plan) (σ : St) (K : KT ρ) : Option ρ := iCode f11G tab f11B N c p σ K
noncomputable def f11c0 := codeAt (bodyOf Try.f11) []
theorem f11t0 {ρ : Type} (N : Nat) (aF0 : Int × List (List Int × Int)) (K : KT ρ) : f11i N f11c0 .n (f11s0 aF0) (joinK (some f11lE) K) =
  laws_FnExactDenominatorOf.Z0 N aF0 (fun t2 => K .ret (f11s1 t2)) := by kernel_rfl
theorem f11m (N : Nat) (aF0 : Int × List (List Int × Int)) : f11i N f11c0 .n (f11s0 aF0) (joinK (some f11lE) (finK tab f11sig Try.f11.results.toList)) = laws_FnExactDenominatorOf.Z0 N aF0 (fun t2 => some ((), (t2, ()))) :=
  (f11t0 N aF0 (finK tab f11sig Try.f11.results.toList)).trans (by kernel_rfl)
theorem f11ok (h : laws_FnExactDenominatorOf.Spec) : EntryOk Try.prog 11 e11 :=
  entry_of_code (sig := f11sig) (c := f11c0) (pl := .n) (je := (some f11lE)) (B := f11B) Try.func11 (by kernel_rfl) (by kernel_rfl) (by kernel_rfl) tabOk f11GOk (by kernel_rfl) (by kernel_rfl) (by kernel_rfl) (by kernel_rfl) fun X hb hp => by
    obtain ⟨aF0, _⟩ := X
    obtain ⟨N, h⟩ := h aF0 hb.1
    exact ⟨N, (f11m N aF0).trans (h N (Nat.le_refl N))⟩
theorem e11ok : EntryOk Try.prog 11 e11 := f11ok laws_FnExactDenominatorOf.ok
end Go.Fw
