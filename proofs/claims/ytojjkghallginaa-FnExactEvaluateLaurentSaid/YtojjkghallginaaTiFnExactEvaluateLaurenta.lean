/- The ties: the program's text comes to the plain functions. Nothing is assumed. -/
import Derived.Test.YtojjkghallginaaFwb
import Derived.Test.YtojjkghallginaaProg
import Derived.Test.YtojjkghallginaaPuFnExactEvaluateLaurenta
set_option linter.unusedVariables false
set_option linter.unusedSimpArgs false
set_option maxRecDepth 100000
namespace Go.Fw
open Go.Proofs
def tab : Tab := lookTab [
  (2, ⟨false, .int .i64, [.int .i64 0], [], none, 8⟩),
  (3, ⟨false, .int .i64, [.int .i64 0], [], none, 8⟩),
  (4, ⟨false, .bool, [.bool false], [], none, 1⟩),
  (5, ⟨false, .int .u8, [.int .u8 0], [], none, 1⟩),
  (6, ⟨false, .int .u8, [.int .u8 0], [], none, 1⟩),
  (7, ⟨true, .pair (.int .i64) (.pair (.int .i64) (.pair (.bool) (.int .u8))), [.int .i64 0, .int .i64 0, .bool false, .int .u8 0], [(0, 1, false), (1, 1, false), (2, 1, false), (3, 1, false)], none, 24⟩),
  (8, ⟨true, .pair (.int .i64) (.pair (.int .i64) (.pair (.bool) (.int .u8))), [.int .i64 0, .int .i64 0, .bool false, .int .u8 0], [(0, 1, false), (1, 1, false), (2, 1, false), (3, 1, false)], none, 24⟩),
  (9, ⟨false, .str, [.str ByteArray.empty], [], none, 16⟩),
  (10, ⟨false, .str, [.str ByteArray.empty], [], none, 16⟩),
  (11, ⟨false, .str, [.str ByteArray.empty], [], none, 16⟩),
  (12, ⟨false, .int .u64, [.int .u64 0], [], none, 8⟩),
  (13, ⟨true, .pair (.str) (.int .u64), [.str ByteArray.empty, .int .u64 0], [(0, 1, false), (1, 1, false)], none, 24⟩),
  (14, ⟨true, .pair (.str) (.int .u64), [.str ByteArray.empty, .int .u64 0], [(0, 1, false), (1, 1, false)], none, 24⟩),
  (21, ⟨false, .int .i32, [.int .i32 0], [], none, 4⟩),
  (23, ⟨false, .sl 59 (.pair (.sl 3 (.int .i64)) (.int .i64)), [.nil], [], some 59, 24⟩),
  (24, ⟨true, .pair (.int .i64) (.sl 59 (.pair (.sl 3 (.int .i64)) (.int .i64))), [.int .i64 0, .nil], [(0, 1, false), (1, 1, false)], none, 32⟩),
  (25, ⟨true, .pair (.int .i64) (.sl 59 (.pair (.sl 3 (.int .i64)) (.int .i64))), [.int .i64 0, .nil], [(0, 1, false), (1, 1, false)], none, 32⟩),
  (30, ⟨false, .sl 3 (.int .i64), [.nil], [], some 3, 24⟩),
  (36, ⟨false, .sl 79 (.pair (.sl 3 (.int .i64)) (.int .i64)), [.nil], [], some 79, 24⟩),
  (37, ⟨true, .pair (.int .i64) (.sl 79 (.pair (.sl 3 (.int .i64)) (.int .i64))), [.int .i64 0, .nil], [(0, 1, false), (1, 1, false)], none, 32⟩),
  (38, ⟨true, .pair (.int .i64) (.sl 79 (.pair (.sl 3 (.int .i64)) (.int .i64))), [.int .i64 0, .nil], [(0, 1, false), (1, 1, false)], none, 32⟩),
  (43, ⟨true, .pair (.int .i64) (.pair (.int .i64) (.sl 3 (.int .i64))), [.int .i64 0, .int .i64 0, .nil], [(0, 1, false), (1, 1, false), (2, 1, false)], none, 40⟩),
  (44, ⟨true, .pair (.int .i64) (.pair (.int .i64) (.sl 3 (.int .i64))), [.int .i64 0, .int .i64 0, .nil], [(0, 1, false), (1, 1, false), (2, 1, false)], none, 40⟩),
  (47, ⟨true, .pair (.int .i64) (.pair (.int .i64) (.sl 3 (.int .i64))), [.int .i64 0, .int .i64 0, .nil], [(0, 1, false), (1, 1, false), (2, 1, false)], none, 40⟩),
  (58, ⟨true, .pair (.sl 3 (.int .i64)) (.int .i64), [.nil, .int .i64 0], [(0, 1, false), (1, 1, false)], none, 32⟩),
  (59, ⟨true, .pair (.sl 3 (.int .i64)) (.int .i64), [.nil, .int .i64 0], [(0, 1, false), (1, 1, false)], none, 32⟩),
  (71, ⟨false, .sl 4 (.bool), [.nil], [], some 4, 24⟩),
  (79, ⟨true, .pair (.sl 3 (.int .i64)) (.int .i64), [.nil, .int .i64 0], [(0, 1, false), (1, 1, false)], none, 32⟩),
  (92, ⟨false, .int .u32, [.int .u32 0], [], none, 4⟩),
  (93, ⟨false, .int .u8, [.int .u8 0], [], none, 1⟩),
  (94, ⟨false, .int .u8, [.int .u8 0], [], none, 1⟩),
  (97, ⟨false, .int .i32, [.int .i32 0], [], none, 4⟩),
  (98, ⟨false, .int .i32, [.int .i32 0], [], none, 4⟩)]
theorem tabOk : TOk Try.prog tab := TOk.of (by kernel_rfl)
end Go.Fw
set_option linter.unusedVariables false
set_option linter.unusedSimpArgs false
set_option maxRecDepth 100000
namespace Go.Fw
open Go.Proofs
/-! ### loop.example/g03115/laws.szIntS -/
noncomputable def f63sig : Sig := ⟨[⟨.sl 3 (.int .i64), false, false⟩, ⟨.int .i64, false, false⟩], [⟨.int .i64, false, false⟩]⟩
noncomputable def e63 : Entry := ⟨f63sig, none, fun X => ((), ((laws_szIntS.g X.1 X.2.1), ()))⟩
noncomputable def f63G : Nat → Option Entry := (fun _ => none)
theorem f63GOk : GOk Try.prog f63G := GOk.nil
noncomputable def f63lE : Clean := ⟨[], [], [], [], []⟩
noncomputable def f63s0 (a0 : List Int) (left1 : Int) : St := initSt f63sig.ps (a0, (left1, ()))
noncomputable def f63s1 (t4 : Int) : St := stOf [(4, .c (.int .i64 t4))] [] []
noncomputable def f63l1 : Clean := ⟨[4], [], [], [], []⟩
noncomputable def f63B : Nat → Option Clean := lookL [(1000000, f63l1)]
noncomputable abbrev f63i {ρ : Type} (N : Nat) (c : Code) (p : Plan) (σ : St) (K : KT ρ) : Option ρ := iCode f63G tab f63B N c p σ K
noncomputable def f63c0 := codeAt (bodyOf Try.f63) []
theorem f63t0 {ρ : Type} (N : Nat) (a0 : List Int) (left1 : Int) (K : KT ρ) : f63i N f63c0 .n (f63s0 a0 left1) (joinK (some f63lE) K) =
  laws_szIntS.Z0 N a0 left1 (fun t4 => K .ret (f63s1 t4)) := by kernel_rfl
theorem f63m (N : Nat) (a0 : List Int) (left1 : Int) : f63i N f63c0 .n (f63s0 a0 left1) (joinK (some f63lE) (finK tab f63sig Try.f63.results.toList)) = laws_szIntS.Z0 N a0 left1 (fun t4 => some ((), (t4, ()))) :=
  (f63t0 N a0 left1 (finK tab f63sig Try.f63.results.toList)).trans (by kernel_rfl)
theorem f63ok (h : laws_szIntS.Spec) : EntryOk Try.prog 63 e63 :=
  entry_of_code (sig := f63sig) (c := f63c0) (pl := .n) (je := (some f63lE)) (B := f63B) Try.func63 (by kernel_rfl) (by kernel_rfl) (by kernel_rfl) tabOk f63GOk (by kernel_rfl) (by kernel_rfl) (by kernel_rfl) (by kernel_rfl) fun X hb hp => by
    obtain ⟨a0, left1, _⟩ := X
    obtain ⟨N, h⟩ := h a0 left1 hb.1
    exact ⟨N, (f63m N a0 left1).trans (h N (Nat.le_refl N))⟩
theorem e63ok : EntryOk Try.prog 63 e63 := f63ok laws_szIntS.ok
end Go.Fw
set_option linter.unusedVariables false
set_option linter.unusedSimpArgs false
set_option maxRecDepth 100000
namespace Go.Fw
open Go.Proofs
/-! ### loop.example/g03115/laws.szTerm -/
noncomputable def f81sig : Sig := ⟨[⟨.pair (.sl 3 (.int .i64)) (.int .i64), true, false⟩, ⟨.int .i64, false, false⟩], [⟨.int .i64, false, false⟩]⟩
noncomputable def e81 : Entry := ⟨f81sig, none, fun X => ((), ((laws_szTerm.g X.1 X.2.1), ()))⟩
noncomputable def f81G : Nat → Option Entry := addG (fun _ => none) 63 e63
theorem f81GOk : GOk Try.prog f81G := (GOk.nil).add e63ok (by kernel_rfl)
noncomputable def f81lE : Clean := ⟨[], [], [], [], []⟩
noncomputable def f81s0 (a0 : List Int × Int) (left1 : Int) : St := initSt f81sig.ps (a0, (left1, ()))
noncomputable def f81s1 (t4 : Int) : St := stOf [(4, .c (.int .i64 t4))] [] []
noncomputable def f81l1 : Clean := ⟨[4], [], [], [], []⟩
noncomputable def f81B : Nat → Option Clean := lookL [(1000000, f81l1)]
noncomputable abbrev f81i {ρ : Type} (N : Nat) (c : Code) (p : Plan) (σ : St) (K : KT ρ) : Option ρ := iCode f81G tab f81B N c p σ K
noncomputable def f81c0 := codeAt (bodyOf Try.f81) []
theorem f81t0 {ρ : Type} (N : Nat) (a0 : List Int × Int) (left1 : Int) (K : KT ρ) : f81i N f81c0 .n (f81s0 a0 left1) (joinK (some f81lE) K) =
  laws_szTerm.Z0 N a0 left1 (fun t4 => K .ret (f81s1 t4)) := by kernel_rfl
theorem f81m (N : Nat) (a0 : List Int × Int) (left1 : Int) : f81i N f81c0 .n (f81s0 a0 left1) (joinK (some f81lE) (finK tab f81sig Try.f81.results.toList)) = laws_szTerm.Z0 N a0 left1 (fun t4 => some ((), (t4, ()))) :=
  (f81t0 N a0 left1 (finK tab f81sig Try.f81.results.toList)).trans (by kernel_rfl)
theorem f81ok (h : laws_szTerm.Spec) : EntryOk Try.prog 81 e81 :=
  entry_of_code (sig := f81sig) (c := f81c0) (pl := .n) (je := (some f81lE)) (B := f81B) Try.func81 (by kernel_rfl) (by kernel_rfl) (by kernel_rfl) tabOk f81GOk (by kernel_rfl) (by kernel_rfl) (by kernel_rfl) (by kernel_rfl) fun X hb hp => by
    obtain ⟨a0, left1, _⟩ := X
    obtain ⟨N, h⟩ := h a0 left1 hb.1
    exact ⟨N, (f81m N a0 left1).trans (h N (Nat.le_refl N))⟩
theorem e81ok : EntryOk Try.prog 81 e81 := f81ok laws_szTerm.ok
end Go.Fw
set_option linter.unusedVariables false
set_option linter.unusedSimpArgs false
set_option maxRecDepth 100000
namespace Go.Fw
open Go.Proofs
/-! ### loop.example/g03115/laws.szTermS -/
noncomputable def f57sig : Sig := ⟨[⟨.sl 79 (.pair (.sl 3 (.int .i64)) (.int .i64)), false, false⟩, ⟨.int .i64, false, false⟩], [⟨.int .i64, false, false⟩]⟩
noncomputable def e57 : Entry := ⟨f57sig, none, fun X => ((), ((laws_szTermS.g X.1 X.2.1), ()))⟩
noncomputable def f57G : Nat → Option Entry := addG (fun _ => none) 81 e81
theorem f57GOk : GOk Try.prog f57G := (GOk.nil).add e81ok (by kernel_rfl)
noncomputable def f57lE : Clean := ⟨[], [], [], [], []⟩
noncomputable def f57s0 (a0 : List (List Int × Int)) (left1 : Int) : St := initSt f57sig.ps (a0, (left1, ()))
noncomputable def f57s1 (a0 : List (List Int × Int)) (left1 : Int) : St := stOf [(0, .c (.sn 79 (.pair (.sl 3 (.int .i64)) (.int .i64)) a0 none)), (1, .c (.int .i64 left1))] [] []
noncomputable def f57l1 : Clean := ⟨[0, 1], [], [], [], []⟩
noncomputable def f57s2 (a0 : List (List Int × Int)) (left1 : Int) (i5 : Int) : St := stOf [(0, .c (.sn 79 (.pair (.sl 3 (.int .i64)) (.int .i64)) a0 none)), (1, .c (.int .i64 left1)), (5, .c (.int .i64 i5))] [] []
noncomputable def f57l2 : Clean := ⟨[0, 1, 5], [], [], [], []⟩
noncomputable def f57s3 (left1 : Int) : St := stOf [(1, .c (.int .i64 left1))] [] []
noncomputable def f57l3 : Clean := ⟨[1], [], [], [], []⟩
noncomputable def f57s4 (t4 : Int) : St := stOf [(4, .c (.int .i64 t4))] [] []
noncomputable def f57l4 : Clean := ⟨[4], [], [], [], []⟩
noncomputable def f57B : Nat → Option Clean := lookL [(0, f57l3), (1000000, f57l4)]
noncomputable abbrev f57i {ρ : Type} (N : Nat) (c : Code) (p : Plan) (σ : St) (K : KT ρ) : Option ρ := iCode f57G tab f57B N c p σ K
noncomputable def f57c1 := codeAt (bodyOf Try.f57) [0]
theorem f57t1 {ρ : Type} (N : Nat) (a0 : List (List Int × Int)) (left1 : Int) (K : KT ρ) : f57i N f57c1 .n (f57s0 a0 left1) (joinK (some f57l1) K) =
  laws_szTermS.Z1 N a0 left1 (fun a0 left1 => K .nrm (f57s1 a0 left1)) := by kernel_rfl
noncomputable def f57c3 := codeAt (bodyOf Try.f57) [1,0]
theorem f57t3 {ρ : Type} (N : Nat) (a0 : List (List Int × Int)) (left1 : Int) (K : KT ρ) : f57i N f57c3 .n (f57s1 a0 left1) (joinK (some f57l1) K) =
  laws_szTermS.Z3 N a0 left1 (fun a0 left1 => K .nrm (f57s1 a0 left1)) := by kernel_rfl
noncomputable def f57c5 := codeAt (bodyOf Try.f57) [1,1,0]
theorem f57t5 {ρ : Type} (N : Nat) (a0 : List (List Int × Int)) (left1 : Int) (K : KT ρ) : f57i N f57c5 .n (f57s1 a0 left1) (joinK (some f57l1) K) =
  laws_szTermS.Z5 N a0 left1 (fun a0 left1 => K .nrm (f57s1 a0 left1)) (fun t4 => K .ret (f57s4 t4)) := by kernel_rfl
noncomputable def f57c8 := codeAt (bodyOf Try.f57) [1,1,1,0,0]
theorem f57t8 {ρ : Type} (N : Nat) (a0 : List (List Int × Int)) (left1 : Int) (K : KT ρ) : f57i N f57c8 .n (f57s1 a0 left1) (joinK (some f57l2) K) =
  laws_szTermS.Z8 N a0 left1 (fun a0 left1 i5 => K .nrm (f57s2 a0 left1 i5)) := by kernel_rfl
noncomputable def f57c11 := codeAt (bodyOf Try.f57) [1,1,1,0,1,0,0]
theorem f57t11 {ρ : Type} (N : Nat) (a0 : List (List Int × Int)) (left1 : Int) (i5 : Int) (K : KT ρ) : f57i N f57c11 .n (f57s2 a0 left1 i5) (joinK (some f57l2) K) =
  laws_szTermS.Z11 N a0 left1 i5 (fun a0 left1 i5 => K .nrm (f57s2 a0 left1 i5)) (fun left1 => K (.exit 0) (f57s3 left1)) (fun t4 => K .ret (f57s4 t4)) := by kernel_rfl
noncomputable def f57c10 := codeAt (bodyOf Try.f57) [1,1,1,0,1,0]
noncomputable def f57p10 : Plan := .mk none (some f57l2) .n .n
noncomputable abbrev f57w10 {ρ : Type} (N : Nat) (M : Nat) (σ : St) (K : KT ρ) : Option ρ := loopC (fun σ K => f57i N f57c11 .n σ K) f57l2 M σ K
theorem f57t10L {ρ : Type} (N : Nat) (K : KT ρ) : ∀ (M : Nat) (a0 : List (List Int × Int)) (left1 : Int) (i5 : Int), f57w10 N M (f57s2 a0 left1 i5) K =
  laws_szTermS.Z10L N (fun left1 => K (.exit 0) (f57s3 left1)) (fun t4 => K .ret (f57s4 t4)) M a0 left1 i5
  | 0, _, _, _ => rfl
  | M + 1, a0, left1, i5 => viaRound (fun k => laws_szTermS.Z11 N a0 left1 i5 k (fun left1 => K (.exit 0) (f57s3 left1)) (fun t4 => K .ret (f57s4 t4))) (f57t11 N a0 left1 i5 (seqK (fun σ => f57w10 N M σ K) K)) (funext fun a0 => funext fun left1 => funext fun i5 => f57t10L N K M a0 left1 i5) (by kernel_rfl) (by kernel_rfl)
theorem f57t10 {ρ : Type} (N : Nat) (a0 : List (List Int × Int)) (left1 : Int) (i5 : Int) (K : KT ρ) : f57i N f57c10 f57p10 (f57s2 a0 left1 i5) (joinK (some f57l3) K) =
  laws_szTermS.Z10 N a0 left1 i5 (fun left1 => K (.exit 0) (f57s3 left1)) (fun t4 => K .ret (f57s4 t4)) :=
  viaLoop (by kernel_rfl) (by kernel_rfl) (σ' := f57s2 a0 left1 i5) (by kernel_rfl) (f57t10L N (joinK (some f57l3) K) N a0 left1 i5) (by kernel_rfl)
noncomputable def f57c9 := codeAt (bodyOf Try.f57) [1,1,1,0,1]
noncomputable def f57p9 : Plan := .mk (some f57l3) none f57p10 .n
theorem f57t9 {ρ : Type} (N : Nat) (a0 : List (List Int × Int)) (left1 : Int) (i5 : Int) (K : KT ρ) : f57i N f57c9 f57p9 (f57s2 a0 left1 i5) (joinK (some f57l3) K) =
  laws_szTermS.Z9 N a0 left1 i5 (fun left1 => K .nrm (f57s3 left1)) (fun t4 => K .ret (f57s4 t4)) :=
  viaBlock (by kernel_rfl) (by kernel_rfl) (f57t10 N a0 left1 i5 (blockK 0 (joinK (some f57l3) K))) (by kernel_rfl)
noncomputable def f57c7 := codeAt (bodyOf Try.f57) [1,1,1,0]
noncomputable def f57p7 : Plan := .mk (some f57l2) none .n f57p9
theorem f57t7 {ρ : Type} (N : Nat) (a0 : List (List Int × Int)) (left1 : Int) (K : KT ρ) : f57i N f57c7 f57p7 (f57s1 a0 left1) (joinK (some f57l3) K) =
  laws_szTermS.Z7 N a0 left1 (fun left1 => K .nrm (f57s3 left1)) (fun t4 => K .ret (f57s4 t4)) :=
  viaSeq (fun k => laws_szTermS.Z8 N a0 left1 k) (by kernel_rfl) (by kernel_rfl) (f57t8 N a0 left1 (seqK (fun σ => f57i N f57c9 f57p9 σ (joinK (some f57l3) K)) (joinK (some f57l3) K))) (funext fun a0 => funext fun left1 => funext fun i5 => f57t9 N a0 left1 i5 K) (by kernel_rfl) (by kernel_rfl)
noncomputable def f57c12 := codeAt (bodyOf Try.f57) [1,1,1,1]
theorem f57t12 {ρ : Type} (N : Nat) (left1 : Int) (K : KT ρ) : f57i N f57c12 .n (f57s3 left1) (joinK (some f57lE) K) =
  laws_szTermS.Z12 N left1 (fun t4 => K .ret (f57s4 t4)) := by kernel_rfl
noncomputable def f57c6 := codeAt (bodyOf Try.f57) [1,1,1]
noncomputable def f57p6 : Plan := .mk (some f57l3) none f57p7 .n
theorem f57t6 {ρ : Type} (N : Nat) (a0 : List (List Int × Int)) (left1 : Int) (K : KT ρ) : f57i N f57c6 f57p6 (f57s1 a0 left1) (joinK (some f57lE) K) =
  laws_szTermS.Z6 N a0 left1 (fun t4 => K .ret (f57s4 t4)) :=
  viaSeq (fun k => laws_szTermS.Z7 N a0 left1 k (fun t4 => K .ret (f57s4 t4))) (by kernel_rfl) (by kernel_rfl) (f57t7 N a0 left1 (seqK (fun σ => f57i N f57c12 .n σ (joinK (some f57lE) K)) (joinK (some f57lE) K))) (funext fun left1 => f57t12 N left1 K) (by kernel_rfl) (by kernel_rfl)
noncomputable def f57c4 := codeAt (bodyOf Try.f57) [1,1]
noncomputable def f57p4 : Plan := .mk (some f57l1) none .n f57p6
theorem f57t4 {ρ : Type} (N : Nat) (a0 : List (List Int × Int)) (left1 : Int) (K : KT ρ) : f57i N f57c4 f57p4 (f57s1 a0 left1) (joinK (some f57lE) K) =
  laws_szTermS.Z4 N a0 left1 (fun t4 => K .ret (f57s4 t4)) :=
  viaSeq (fun k => laws_szTermS.Z5 N a0 left1 k (fun t4 => K .ret (f57s4 t4))) (by kernel_rfl) (by kernel_rfl) (f57t5 N a0 left1 (seqK (fun σ => f57i N f57c6 f57p6 σ (joinK (some f57lE) K)) (joinK (some f57lE) K))) (funext fun a0 => funext fun left1 => f57t6 N a0 left1 K) (by kernel_rfl) (by kernel_rfl)
noncomputable def f57c2 := codeAt (bodyOf Try.f57) [1]
noncomputable def f57p2 : Plan := .mk (some f57l1) none .n f57p4
theorem f57t2 {ρ : Type} (N : Nat) (a0 : List (List Int × Int)) (left1 : Int) (K : KT ρ) : f57i N f57c2 f57p2 (f57s1 a0 left1) (joinK (some f57lE) K) =
  laws_szTermS.Z2 N a0 left1 (fun t4 => K .ret (f57s4 t4)) :=
  viaSeq (fun k => laws_szTermS.Z3 N a0 left1 k) (by kernel_rfl) (by kernel_rfl) (f57t3 N a0 left1 (seqK (fun σ => f57i N f57c4 f57p4 σ (joinK (some f57lE) K)) (joinK (some f57lE) K))) (funext fun a0 => funext fun left1 => f57t4 N a0 left1 K) (by kernel_rfl) (by kernel_rfl)
noncomputable def f57c0 := codeAt (bodyOf Try.f57) []
noncomputable def f57p0 : Plan := .mk (some f57l1) none .n f57p2
theorem f57t0 {ρ : Type} (N : Nat) (a0 : List (List Int × Int)) (left1 : Int) (K : KT ρ) : f57i N f57c0 f57p0 (f57s0 a0 left1) (joinK (some f57lE) K) =
  laws_szTermS.Z0 N a0 left1 (fun t4 => K .ret (f57s4 t4)) :=
  viaSeq (fun k => laws_szTermS.Z1 N a0 left1 k) (by kernel_rfl) (by kernel_rfl) (f57t1 N a0 left1 (seqK (fun σ => f57i N f57c2 f57p2 σ (joinK (some f57lE) K)) (joinK (some f57lE) K))) (funext fun a0 => funext fun left1 => f57t2 N a0 left1 K) (by kernel_rfl) (by kernel_rfl)
theorem f57m (N : Nat) (a0 : List (List Int × Int)) (left1 : Int) : f57i N f57c0 f57p0 (f57s0 a0 left1) (joinK (some f57lE) (finK tab f57sig Try.f57.results.toList)) = laws_szTermS.Z0 N a0 left1 (fun t4 => some ((), (t4, ()))) :=
  (f57t0 N a0 left1 (finK tab f57sig Try.f57.results.toList)).trans (by kernel_rfl)
theorem f57ok (h : laws_szTermS.Spec) : EntryOk Try.prog 57 e57 :=
  entry_of_code (sig := f57sig) (c := f57c0) (pl := f57p0) (je := (some f57lE)) (B := f57B) Try.func57 (by kernel_rfl) (by kernel_rfl) (by kernel_rfl) tabOk f57GOk (by kernel_rfl) (by kernel_rfl) (by kernel_rfl) (by kernel_rfl) fun X hb hp => by
    obtain ⟨a0, left1, _⟩ := X
    obtain ⟨N, h⟩ := h a0 left1 hb.1
    exact ⟨N, (f57m N a0 left1).trans (h N (Nat.le_refl N))⟩
theorem e57ok : EntryOk Try.prog 57 e57 := f57ok laws_szTermS.ok
end Go.Fw
set_option linter.unusedVariables false
set_option linter.unusedSimpArgs false
set_option maxRecDepth 100000
namespace Go.Fw
open Go.Proofs
/-! ### loop.example/g03115/laws.szLaurent -/
noncomputable def f24sig : Sig := ⟨[⟨.pair (.int .i64) (.sl 79 (.pair (.sl 3 (.int .i64)) (.int .i64))), true, false⟩, ⟨.int .i64, false, false⟩], [⟨.int .i64, false, false⟩]⟩
noncomputable def e24 : Entry := ⟨f24sig, none, fun X => ((), ((laws_szLaurent.g X.1 X.2.1), ()))⟩
noncomputable def f24G : Nat → Option Entry := addG (fun _ => none) 57 e57
theorem f24GOk : GOk Try.prog f24G := (GOk.nil).add e57ok (by kernel_rfl)
noncomputable def f24lE : Clean := ⟨[], [], [], [], []⟩
noncomputable def f24s0 (a0 : Int × List (List Int × Int)) (left1 : Int) : St := initSt f24sig.ps (a0, (left1, ()))
noncomputable def f24s1 (t4 : Int) : St := stOf [(4, .c (.int .i64 t4))] [] []
noncomputable def f24l1 : Clean := ⟨[4], [], [], [], []⟩
noncomputable def f24B : Nat → Option Clean := lookL [(1000000, f24l1)]
noncomputable abbrev f24i {ρ : Type} (N : Nat) (c : Code) (p : Plan) (σ : St) (K : KT ρ) : Option ρ := iCode f24G tab f24B N c p σ K
noncomputable def f24c0 := codeAt (bodyOf Try.f24) []
theorem f24t0 {ρ : Type} (N : Nat) (a0 : Int × List (List Int × Int)) (left1 : Int) (K : KT ρ) : f24i N f24c0 .n (f24s0 a0 left1) (joinK (some f24lE) K) =
  laws_szLaurent.Z0 N a0 left1 (fun t4 => K .ret (f24s1 t4)) := by kernel_rfl
theorem f24m (N : Nat) (a0 : Int × List (List Int × Int)) (left1 : Int) : f24i N f24c0 .n (f24s0 a0 left1) (joinK (some f24lE) (finK tab f24sig Try.f24.results.toList)) = laws_szLaurent.Z0 N a0 left1 (fun t4 => some ((), (t4, ()))) :=
  (f24t0 N a0 left1 (finK tab f24sig Try.f24.results.toList)).trans (by kernel_rfl)
theorem f24ok (h : laws_szLaurent.Spec) : EntryOk Try.prog 24 e24 :=
  entry_of_code (sig := f24sig) (c := f24c0) (pl := .n) (je := (some f24lE)) (B := f24B) Try.func24 (by kernel_rfl) (by kernel_rfl) (by kernel_rfl) tabOk f24GOk (by kernel_rfl) (by kernel_rfl) (by kernel_rfl) (by kernel_rfl) fun X hb hp => by
    obtain ⟨a0, left1, _⟩ := X
    obtain ⟨N, h⟩ := h a0 left1 hb.1
    exact ⟨N, (f24m N a0 left1).trans (h N (Nat.le_refl N))⟩
theorem e24ok : EntryOk Try.prog 24 e24 := f24ok laws_szLaurent.ok
end Go.Fw
set_option linter.unusedVariables false
set_option linter.unusedSimpArgs false
set_option maxRecDepth 100000
namespace Go.Fw
open Go.Proofs
/-! ### loop.example/g03115/laws.toIntS -/
noncomputable def f20sig : Sig := ⟨[⟨.sl 3 (.int .i64), false, false⟩], [⟨.sl 3 (.int .i64), false, false⟩]⟩
noncomputable def e20 : Entry := ⟨f20sig, (some fun X => laws_toIntS.P X.1), fun X => ((), ((laws_toIntS.g X.1), ()))⟩
noncomputable def f20G : Nat → Option Entry := (fun _ => none)
theorem f20GOk : GOk Try.prog f20G := GOk.nil
noncomputable def f20lE : Clean := ⟨[], [], [], [], []⟩
noncomputable def f20s0 (a0 : List Int) : St := initSt f20sig.ps (a0, ())
noncomputable def f20s1 (a0 : List Int) : St := stOf [(0, .c (.sn 3 (.int .i64) a0 none))] [] []
noncomputable def f20l1 : Clean := ⟨[0], [], [], [], []⟩
noncomputable def f20s2 (out3 : List Int) (a0 : List Int) : St := stOf [(0, .c (.sn 3 (.int .i64) a0 none)), (3, .c (.own 1000192))] [] [(1000192, (⟨3, .int .i64, out3, true, false⟩ : Row))]
noncomputable def f20l2 : Clean := ⟨[0, 3], [], [], [], [(⟨false, 3, 0⟩, 1000192)]⟩
noncomputable def f20s3 (out3 : List Int) (a0 : List Int) (i4 : Int) : St := stOf [(0, .c (.sn 3 (.int .i64) a0 none)), (3, .c (.own 1000192)), (4, .c (.int .i64 i4))] [] [(1000192, (⟨3, .int .i64, out3, true, false⟩ : Row))]
noncomputable def f20l3 : Clean := ⟨[0, 3, 4], [], [], [], [(⟨false, 3, 0⟩, 1000192)]⟩
noncomputable def f20s4 (out3 : List Int) : St := stOf [(3, .c (.own 1000192))] [] [(1000192, (⟨3, .int .i64, out3, true, false⟩ : Row))]
noncomputable def f20l4 : Clean := ⟨[3], [], [], [], [(⟨false, 3, 0⟩, 1000192)]⟩
noncomputable def f20s5 (t2 : List Int) : St := stOf [(2, .c (.own 1000128))] [] [(1000128, (⟨3, .int .i64, t2, true, false⟩ : Row))]
noncomputable def f20l5 : Clean := ⟨[2], [], [], [], [(⟨false, 2, 0⟩, 1000128)]⟩
noncomputable def f20B : Nat → Option Clean := lookL [(0, f20l4), (1000000, f20l5)]
noncomputable abbrev f20i {ρ : Type} (N : Nat) (c : Code) (p : Plan) (σ : St) (K : KT ρ) : Option ρ := iCode f20G tab f20B N c p σ K
noncomputable def f20c1 := codeAt (bodyOf Try.f20) [0]
theorem f20t1 {ρ : Type} (N : Nat) (a0 : List Int) (K : KT ρ) : f20i N f20c1 .n (f20s0 a0) (joinK (some f20l1) K) =
  laws_toIntS.Z1 N a0 (fun a0 => K .nrm (f20s1 a0)) := by kernel_rfl
noncomputable def f20c3 := codeAt (bodyOf Try.f20) [1,0]
theorem f20t3 {ρ : Type} (N : Nat) (a0 : List Int) (K : KT ρ) : f20i N f20c3 .n (f20s1 a0) (joinK (some f20l2) K) =
  laws_toIntS.Z3 N a0 (fun out3 a0 => K .nrm (f20s2 out3 a0)) := by kernel_rfl
noncomputable def f20c6 := codeAt (bodyOf Try.f20) [1,1,0,0]
theorem f20t6 {ρ : Type} (N : Nat) (out3 : List Int) (a0 : List Int) (K : KT ρ) : f20i N f20c6 .n (f20s2 out3 a0) (joinK (some f20l3) K) =
  laws_toIntS.Z6 N out3 a0 (fun out3 a0 i4 => K .nrm (f20s3 out3 a0 i4)) := by kernel_rfl
noncomputable def f20c9 := codeAt (bodyOf Try.f20) [1,1,0,1,0,0]
theorem f20t9 {ρ : Type} (N : Nat) (out3 : List Int) (a0 : List Int) (i4 : Int) (K : KT ρ) : f20i N f20c9 .n (f20s3 out3 a0 i4) (joinK (some f20l3) K) =
  laws_toIntS.Z9 N out3 a0 i4 (fun out3 a0 i4 => K .nrm (f20s3 out3 a0 i4)) (fun out3 => K (.exit 0) (f20s4 out3)) := by kernel_rfl
noncomputable def f20c8 := codeAt (bodyOf Try.f20) [1,1,0,1,0]
noncomputable def f20p8 : Plan := .mk none (some f20l3) .n .n
noncomputable abbrev f20w8 {ρ : Type} (N : Nat) (M : Nat) (σ : St) (K : KT ρ) : Option ρ := loopC (fun σ K => f20i N f20c9 .n σ K) f20l3 M σ K
theorem f20t8L {ρ : Type} (N : Nat) (K : KT ρ) : ∀ (M : Nat) (out3 : List Int) (a0 : List Int) (i4 : Int), f20w8 N M (f20s3 out3 a0 i4) K =
  laws_toIntS.Z8L N (fun out3 => K (.exit 0) (f20s4 out3)) M out3 a0 i4
  | 0, _, _, _ => rfl
  | M + 1, out3, a0, i4 => viaRound (fun k => laws_toIntS.Z9 N out3 a0 i4 k (fun out3 => K (.exit 0) (f20s4 out3))) (f20t9 N out3 a0 i4 (seqK (fun σ => f20w8 N M σ K) K)) (funext fun out3 => funext fun a0 => funext fun i4 => f20t8L N K M out3 a0 i4) (by kernel_rfl) (by kernel_rfl)
theorem f20t8 {ρ : Type} (N : Nat) (out3 : List Int) (a0 : List Int) (i4 : Int) (K : KT ρ) : f20i N f20c8 f20p8 (f20s3 out3 a0 i4) (joinK (some f20l4) K) =
  laws_toIntS.Z8 N out3 a0 i4 (fun out3 => K (.exit 0) (f20s4 out3)) :=
  viaLoop (by kernel_rfl) (by kernel_rfl) (σ' := f20s3 out3 a0 i4) (by kernel_rfl) (f20t8L N (joinK (some f20l4) K) N out3 a0 i4) (by kernel_rfl)
noncomputable def f20c7 := codeAt (bodyOf Try.f20) [1,1,0,1]
noncomputable def f20p7 : Plan := .mk (some f20l4) none f20p8 .n
theorem f20t7 {ρ : Type} (N : Nat) (out3 : List Int) (a0 : List Int) (i4 : Int) (K : KT ρ) : f20i N f20c7 f20p7 (f20s3 out3 a0 i4) (joinK (some f20l4) K) =
  laws_toIntS.Z7 N out3 a0 i4 (fun out3 => K .nrm (f20s4 out3)) :=
  viaBlock (by kernel_rfl) (by kernel_rfl) (f20t8 N out3 a0 i4 (blockK 0 (joinK (some f20l4) K))) (by kernel_rfl)
noncomputable def f20c5 := codeAt (bodyOf Try.f20) [1,1,0]
noncomputable def f20p5 : Plan := .mk (some f20l3) none .n f20p7
theorem f20t5 {ρ : Type} (N : Nat) (out3 : List Int) (a0 : List Int) (K : KT ρ) : f20i N f20c5 f20p5 (f20s2 out3 a0) (joinK (some f20l4) K) =
  laws_toIntS.Z5 N out3 a0 (fun out3 => K .nrm (f20s4 out3)) :=
  viaSeq (fun k => laws_toIntS.Z6 N out3 a0 k) (by kernel_rfl) (by kernel_rfl) (f20t6 N out3 a0 (seqK (fun σ => f20i N f20c7 f20p7 σ (joinK (some f20l4) K)) (joinK (some f20l4) K))) (funext fun out3 => funext fun a0 => funext fun i4 => f20t7 N out3 a0 i4 K) (by kernel_rfl) (by kernel_rfl)
noncomputable def f20c10 := codeAt (bodyOf Try.f20) [1,1,1]
theorem f20t10 {ρ : Type} (N : Nat) (out3 : List Int) (K : KT ρ) : f20i N f20c10 .n (f20s4 out3) (joinK (some f20lE) K) =
  laws_toIntS.Z10 N out3 (fun t2 => K .ret (f20s5 t2)) := by kernel_rfl
noncomputable def f20c4 := codeAt (bodyOf Try.f20) [1,1]
noncomputable def f20p4 : Plan := .mk (some f20l4) none f20p5 .n
theorem f20t4 {ρ : Type} (N : Nat) (out3 : List Int) (a0 : List Int) (K : KT ρ) : f20i N f20c4 f20p4 (f20s2 out3 a0) (joinK (some f20lE) K) =
  laws_toIntS.Z4 N out3 a0 (fun t2 => K .ret (f20s5 t2)) :=
  viaSeq (fun k => laws_toIntS.Z5 N out3 a0 k) (by kernel_rfl) (by kernel_rfl) (f20t5 N out3 a0 (seqK (fun σ => f20i N f20c10 .n σ (joinK (some f20lE) K)) (joinK (some f20lE) K))) (funext fun out3 => f20t10 N out3 K) (by kernel_rfl) (by kernel_rfl)
noncomputable def f20c2 := codeAt (bodyOf Try.f20) [1]
noncomputable def f20p2 : Plan := .mk (some f20l2) none .n f20p4
theorem f20t2 {ρ : Type} (N : Nat) (a0 : List Int) (K : KT ρ) : f20i N f20c2 f20p2 (f20s1 a0) (joinK (some f20lE) K) =
  laws_toIntS.Z2 N a0 (fun t2 => K .ret (f20s5 t2)) :=
  viaSeq (fun k => laws_toIntS.Z3 N a0 k) (by kernel_rfl) (by kernel_rfl) (f20t3 N a0 (seqK (fun σ => f20i N f20c4 f20p4 σ (joinK (some f20lE) K)) (joinK (some f20lE) K))) (funext fun out3 => funext fun a0 => f20t4 N out3 a0 K) (by kernel_rfl) (by kernel_rfl)
noncomputable def f20c0 := codeAt (bodyOf Try.f20) []
noncomputable def f20p0 : Plan := .mk (some f20l1) none .n f20p2
theorem f20t0 {ρ : Type} (N : Nat) (a0 : List Int) (K : KT ρ) : f20i N f20c0 f20p0 (f20s0 a0) (joinK (some f20lE) K) =
  laws_toIntS.Z0 N a0 (fun t2 => K .ret (f20s5 t2)) :=
  viaSeq (fun k => laws_toIntS.Z1 N a0 k) (by kernel_rfl) (by kernel_rfl) (f20t1 N a0 (seqK (fun σ => f20i N f20c2 f20p2 σ (joinK (some f20lE) K)) (joinK (some f20lE) K))) (funext fun a0 => f20t2 N a0 K) (by kernel_rfl) (by kernel_rfl)
theorem f20m (N : Nat) (a0 : List Int) : f20i N f20c0 f20p0 (f20s0 a0) (joinK (some f20lE) (finK tab f20sig Try.f20.results.toList)) = laws_toIntS.Z0 N a0 (fun t2 => some ((), (t2, ()))) :=
  (f20t0 N a0 (finK tab f20sig Try.f20.results.toList)).trans (by kernel_rfl)
theorem f20ok (h : laws_toIntS.Spec) : EntryOk Try.prog 20 e20 :=
  entry_of_code (sig := f20sig) (c := f20c0) (pl := f20p0) (je := (some f20lE)) (B := f20B) Try.func20 (by kernel_rfl) (by kernel_rfl) (by kernel_rfl) tabOk f20GOk (by kernel_rfl) (by kernel_rfl) (by kernel_rfl) (by kernel_rfl) fun X hb hp => by
    obtain ⟨a0, _⟩ := X
    obtain ⟨N, h⟩ := h a0 hb.1 hp
    exact ⟨N, (f20m N a0).trans (h N (Nat.le_refl N))⟩
theorem e20ok : EntryOk Try.prog 20 e20 := f20ok laws_toIntS.ok
end Go.Fw
set_option linter.unusedVariables false
set_option linter.unusedSimpArgs false
set_option maxRecDepth 100000
namespace Go.Fw
open Go.Proofs
/-! ### loop.example/g03115/laws.toTerm -/
noncomputable def f82sig : Sig := ⟨[⟨.pair (.sl 3 (.int .i64)) (.int .i64), true, false⟩], [⟨.pair (.sl 3 (.int .i64)) (.int .i64), true, false⟩]⟩
noncomputable def e82 : Entry := ⟨f82sig, (some fun X => laws_toTerm.P X.1), fun X => ((), ((laws_toTerm.g X.1), ()))⟩
noncomputable def f82G : Nat → Option Entry := addG (fun _ => none) 20 e20
theorem f82GOk : GOk Try.prog f82G := (GOk.nil).add e20ok (by kernel_rfl)
noncomputable def f82lE : Clean := ⟨[], [], [], [], []⟩
noncomputable def f82s0 (a0 : List Int × Int) : St := initSt f82sig.ps (a0, ())
noncomputable def f82s1 (t2_0 : List Int) (t2_1 : Int) : St := stOf [(2, .c (.box 2 0))] [(2, (59, [.own 20000128, .int .i64 t2_1]))] [(20000128, (⟨3, .int .i64, t2_0, true, false⟩ : Row))]
noncomputable def f82l1 : Clean := ⟨[2], [2], [], [], [(⟨true, 2, 0⟩, 20000128)]⟩
noncomputable def f82B : Nat → Option Clean := lookL [(1000000, f82l1)]
noncomputable abbrev f82i {ρ : Type} (N : Nat) (c : Code) (p : Plan) (σ : St) (K : KT ρ) : Option ρ := iCode f82G tab f82B N c p σ K
noncomputable def f82c0 := codeAt (bodyOf Try.f82) []
theorem f82t0 {ρ : Type} (N : Nat) (a0 : List Int × Int) (K : KT ρ) : f82i N f82c0 .n (f82s0 a0) (joinK (some f82lE) K) =
  laws_toTerm.Z0 N a0 (fun t2_0 t2_1 => K .ret (f82s1 t2_0 t2_1)) := by kernel_rfl
theorem f82m (N : Nat) (a0 : List Int × Int) : f82i N f82c0 .n (f82s0 a0) (joinK (some f82lE) (finK tab f82sig Try.f82.results.toList)) = laws_toTerm.Z0 N a0 (fun t2_0 t2_1 => some ((), ((t2_0, t2_1), ()))) :=
  (f82t0 N a0 (finK tab f82sig Try.f82.results.toList)).trans (by kernel_rfl)
theorem f82ok (h : laws_toTerm.Spec) : EntryOk Try.prog 82 e82 :=
  entry_of_code (sig := f82sig) (c := f82c0) (pl := .n) (je := (some f82lE)) (B := f82B) Try.func82 (by kernel_rfl) (by kernel_rfl) (by kernel_rfl) tabOk f82GOk (by kernel_rfl) (by kernel_rfl) (by kernel_rfl) (by kernel_rfl) fun X hb hp => by
    obtain ⟨a0, _⟩ := X
    obtain ⟨N, h⟩ := h a0 hb.1 hp
    exact ⟨N, (f82m N a0).trans (h N (Nat.le_refl N))⟩
theorem e82ok : EntryOk Try.prog 82 e82 := f82ok laws_toTerm.ok
end Go.Fw
set_option linter.unusedVariables false
set_option linter.unusedSimpArgs false
set_option maxRecDepth 100000
namespace Go.Fw
open Go.Proofs
/-! ### loop.example/g03115/laws.toTermS -/
noncomputable def f58sig : Sig := ⟨[⟨.sl 79 (.pair (.sl 3 (.int .i64)) (.int .i64)), false, false⟩], [⟨.sl 59 (.pair (.sl 3 (.int .i64)) (.int .i64)), false, false⟩]⟩
noncomputable def e58 : Entry := ⟨f58sig, (some fun X => laws_toTermS.P X.1), fun X => ((), ((laws_toTermS.g X.1), ()))⟩
noncomputable def f58G : Nat → Option Entry := addG (fun _ => none) 82 e82
theorem f58GOk : GOk Try.prog f58G := (GOk.nil).add e82ok (by kernel_rfl)
noncomputable def f58lE : Clean := ⟨[], [], [], [], []⟩
noncomputable def f58s0 (a0 : List (List Int × Int)) : St := initSt f58sig.ps (a0, ())
noncomputable def f58s1 (a0 : List (List Int × Int)) : St := stOf [(0, .c (.sn 79 (.pair (.sl 3 (.int .i64)) (.int .i64)) a0 none))] [] []
noncomputable def f58l1 : Clean := ⟨[0], [], [], [], []⟩
noncomputable def f58s2 (out3 : List (List Int × Int)) (a0 : List (List Int × Int)) : St := stOf [(0, .c (.sn 79 (.pair (.sl 3 (.int .i64)) (.int .i64)) a0 none)), (3, .c (.own 1000192))] [] [(1000192, (⟨59, .pair (.sl 3 (.int .i64)) (.int .i64), out3, true, false⟩ : Row))]
noncomputable def f58l2 : Clean := ⟨[0, 3], [], [], [], [(⟨false, 3, 0⟩, 1000192)]⟩
noncomputable def f58s3 (out3 : List (List Int × Int)) (a0 : List (List Int × Int)) (i4 : Int) : St := stOf [(0, .c (.sn 79 (.pair (.sl 3 (.int .i64)) (.int .i64)) a0 none)), (3, .c (.own 1000192)), (4, .c (.int .i64 i4))] [] [(1000192, (⟨59, .pair (.sl 3 (.int .i64)) (.int .i64), out3, true, false⟩ : Row))]
noncomputable def f58l3 : Clean := ⟨[0, 3, 4], [], [], [], [(⟨false, 3, 0⟩, 1000192)]⟩
noncomputable def f58s4 (out3 : List (List Int × Int)) : St := stOf [(3, .c (.own 1000192))] [] [(1000192, (⟨59, .pair (.sl 3 (.int .i64)) (.int .i64), out3, true, false⟩ : Row))]
noncomputable def f58l4 : Clean := ⟨[3], [], [], [], [(⟨false, 3, 0⟩, 1000192)]⟩
noncomputable def f58s5 (t2 : List (List Int × Int)) : St := stOf [(2, .c (.own 1000128))] [] [(1000128, (⟨59, .pair (.sl 3 (.int .i64)) (.int .i64), t2, true, false⟩ : Row))]
noncomputable def f58l5 : Clean := ⟨[2], [], [], [], [(⟨false, 2, 0⟩, 1000128)]⟩
noncomputable def f58B : Nat → Option Clean := lookL [(0, f58l4), (1000000, f58l5)]
noncomputable abbrev f58i {ρ : Type} (N : Nat) (c : Code) (p : Plan) (σ : St) (K : KT ρ) : Option ρ := iCode f58G tab f58B N c p σ K
noncomputable def f58c1 := codeAt (bodyOf Try.f58) [0]
theorem f58t1 {ρ : Type} (N : Nat) (a0 : List (List Int × Int)) (K : KT ρ) : f58i N f58c1 .n (f58s0 a0) (joinK (some f58l1) K) =
  laws_toTermS.Z1 N a0 (fun a0 => K .nrm (f58s1 a0)) := by kernel_rfl
noncomputable def f58c3 := codeAt (bodyOf Try.f58) [1,0]
theorem f58t3 {ρ : Type} (N : Nat) (a0 : List (List Int × Int)) (K : KT ρ) : f58i N f58c3 .n (f58s1 a0) (joinK (some f58l2) K) =
  laws_toTermS.Z3 N a0 (fun out3 a0 => K .nrm (f58s2 out3 a0)) := by kernel_rfl
noncomputable def f58c6 := codeAt (bodyOf Try.f58) [1,1,0,0]
theorem f58t6 {ρ : Type} (N : Nat) (out3 : List (List Int × Int)) (a0 : List (List Int × Int)) (K : KT ρ) : f58i N f58c6 .n (f58s2 out3 a0) (joinK (some f58l3) K) =
  laws_toTermS.Z6 N out3 a0 (fun out3 a0 i4 => K .nrm (f58s3 out3 a0 i4)) := by kernel_rfl
noncomputable def f58c9 := codeAt (bodyOf Try.f58) [1,1,0,1,0,0]
theorem f58t9 {ρ : Type} (N : Nat) (out3 : List (List Int × Int)) (a0 : List (List Int × Int)) (i4 : Int) (K : KT ρ) : f58i N f58c9 .n (f58s3 out3 a0 i4) (joinK (some f58l3) K) =
  laws_toTermS.Z9 N out3 a0 i4 (fun out3 a0 i4 => K .nrm (f58s3 out3 a0 i4)) (fun out3 => K (.exit 0) (f58s4 out3)) := by kernel_rfl
noncomputable def f58c8 := codeAt (bodyOf Try.f58) [1,1,0,1,0]
noncomputable def f58p8 : Plan := .mk none (some f58l3) .n .n
noncomputable abbrev f58w8 {ρ : Type} (N : Nat) (M : Nat) (σ : St) (K : KT ρ) : Option ρ := loopC (fun σ K => f58i N f58c9 .n σ K) f58l3 M σ K
theorem f58t8L {ρ : Type} (N : Nat) (K : KT ρ) : ∀ (M : Nat) (out3 : List (List Int × Int)) (a0 : List (List Int × Int)) (i4 : Int), f58w8 N M (f58s3 out3 a0 i4) K =
  laws_toTermS.Z8L N (fun out3 => K (.exit 0) (f58s4 out3)) M out3 a0 i4
  | 0, _, _, _ => rfl
  | M + 1, out3, a0, i4 => viaRound (fun k => laws_toTermS.Z9 N out3 a0 i4 k (fun out3 => K (.exit 0) (f58s4 out3))) (f58t9 N out3 a0 i4 (seqK (fun σ => f58w8 N M σ K) K)) (funext fun out3 => funext fun a0 => funext fun i4 => f58t8L N K M out3 a0 i4) (by kernel_rfl) (by kernel_rfl)
theorem f58t8 {ρ : Type} (N : Nat) (out3 : List (List Int × Int)) (a0 : List (List Int × Int)) (i4 : Int) (K : KT ρ) : f58i N f58c8 f58p8 (f58s3 out3 a0 i4) (joinK (some f58l4) K) =
  laws_toTermS.Z8 N out3 a0 i4 (fun out3 => K (.exit 0) (f58s4 out3)) :=
  viaLoop (by kernel_rfl) (by kernel_rfl) (σ' := f58s3 out3 a0 i4) (by kernel_rfl) (f58t8L N (joinK (some f58l4) K) N out3 a0 i4) (by kernel_rfl)
noncomputable def f58c7 := codeAt (bodyOf Try.f58) [1,1,0,1]
noncomputable def f58p7 : Plan := .mk (some f58l4) none f58p8 .n
theorem f58t7 {ρ : Type} (N : Nat) (out3 : List (List Int × Int)) (a0 : List (List Int × Int)) (i4 : Int) (K : KT ρ) : f58i N f58c7 f58p7 (f58s3 out3 a0 i4) (joinK (some f58l4) K) =
  laws_toTermS.Z7 N out3 a0 i4 (fun out3 => K .nrm (f58s4 out3)) :=
  viaBlock (by kernel_rfl) (by kernel_rfl) (f58t8 N out3 a0 i4 (blockK 0 (joinK (some f58l4) K))) (by kernel_rfl)
noncomputable def f58c5 := codeAt (bodyOf Try.f58) [1,1,0]
noncomputable def f58p5 : Plan := .mk (some f58l3) none .n f58p7
theorem f58t5 {ρ : Type} (N : Nat) (out3 : List (List Int × Int)) (a0 : List (List Int × Int)) (K : KT ρ) : f58i N f58c5 f58p5 (f58s2 out3 a0) (joinK (some f58l4) K) =
  laws_toTermS.Z5 N out3 a0 (fun out3 => K .nrm (f58s4 out3)) :=
  viaSeq (fun k => laws_toTermS.Z6 N out3 a0 k) (by kernel_rfl) (by kernel_rfl) (f58t6 N out3 a0 (seqK (fun σ => f58i N f58c7 f58p7 σ (joinK (some f58l4) K)) (joinK (some f58l4) K))) (funext fun out3 => funext fun a0 => funext fun i4 => f58t7 N out3 a0 i4 K) (by kernel_rfl) (by kernel_rfl)
noncomputable def f58c10 := codeAt (bodyOf Try.f58) [1,1,1]
theorem f58t10 {ρ : Type} (N : Nat) (out3 : List (List Int × Int)) (K : KT ρ) : f58i N f58c10 .n (f58s4 out3) (joinK (some f58lE) K) =
  laws_toTermS.Z10 N out3 (fun t2 => K .ret (f58s5 t2)) := by kernel_rfl
noncomputable def f58c4 := codeAt (bodyOf Try.f58) [1,1]
noncomputable def f58p4 : Plan := .mk (some f58l4) none f58p5 .n
theorem f58t4 {ρ : Type} (N : Nat) (out3 : List (List Int × Int)) (a0 : List (List Int × Int)) (K : KT ρ) : f58i N f58c4 f58p4 (f58s2 out3 a0) (joinK (some f58lE) K) =
  laws_toTermS.Z4 N out3 a0 (fun t2 => K .ret (f58s5 t2)) :=
  viaSeq (fun k => laws_toTermS.Z5 N out3 a0 k) (by kernel_rfl) (by kernel_rfl) (f58t5 N out3 a0 (seqK (fun σ => f58i N f58c10 .n σ (joinK (some f58lE) K)) (joinK (some f58lE) K))) (funext fun out3 => f58t10 N out3 K) (by kernel_rfl) (by kernel_rfl)
noncomputable def f58c2 := codeAt (bodyOf Try.f58) [1]
noncomputable def f58p2 : Plan := .mk (some f58l2) none .n f58p4
theorem f58t2 {ρ : Type} (N : Nat) (a0 : List (List Int × Int)) (K : KT ρ) : f58i N f58c2 f58p2 (f58s1 a0) (joinK (some f58lE) K) =
  laws_toTermS.Z2 N a0 (fun t2 => K .ret (f58s5 t2)) :=
  viaSeq (fun k => laws_toTermS.Z3 N a0 k) (by kernel_rfl) (by kernel_rfl) (f58t3 N a0 (seqK (fun σ => f58i N f58c4 f58p4 σ (joinK (some f58lE) K)) (joinK (some f58lE) K))) (funext fun out3 => funext fun a0 => f58t4 N out3 a0 K) (by kernel_rfl) (by kernel_rfl)
noncomputable def f58c0 := codeAt (bodyOf Try.f58) []
noncomputable def f58p0 : Plan := .mk (some f58l1) none .n f58p2
theorem f58t0 {ρ : Type} (N : Nat) (a0 : List (List Int × Int)) (K : KT ρ) : f58i N f58c0 f58p0 (f58s0 a0) (joinK (some f58lE) K) =
  laws_toTermS.Z0 N a0 (fun t2 => K .ret (f58s5 t2)) :=
  viaSeq (fun k => laws_toTermS.Z1 N a0 k) (by kernel_rfl) (by kernel_rfl) (f58t1 N a0 (seqK (fun σ => f58i N f58c2 f58p2 σ (joinK (some f58lE) K)) (joinK (some f58lE) K))) (funext fun a0 => f58t2 N a0 K) (by kernel_rfl) (by kernel_rfl)
theorem f58m (N : Nat) (a0 : List (List Int × Int)) : f58i N f58c0 f58p0 (f58s0 a0) (joinK (some f58lE) (finK tab f58sig Try.f58.results.toList)) = laws_toTermS.Z0 N a0 (fun t2 => some ((), (t2, ()))) :=
  (f58t0 N a0 (finK tab f58sig Try.f58.results.toList)).trans (by kernel_rfl)
theorem f58ok (h : laws_toTermS.Spec) : EntryOk Try.prog 58 e58 :=
  entry_of_code (sig := f58sig) (c := f58c0) (pl := f58p0) (je := (some f58lE)) (B := f58B) Try.func58 (by kernel_rfl) (by kernel_rfl) (by kernel_rfl) tabOk f58GOk (by kernel_rfl) (by kernel_rfl) (by kernel_rfl) (by kernel_rfl) fun X hb hp => by
    obtain ⟨a0, _⟩ := X
    obtain ⟨N, h⟩ := h a0 hb.1 hp
    exact ⟨N, (f58m N a0).trans (h N (Nat.le_refl N))⟩
theorem e58ok : EntryOk Try.prog 58 e58 := f58ok laws_toTermS.ok
end Go.Fw
set_option linter.unusedVariables false
set_option linter.unusedSimpArgs false
set_option maxRecDepth 100000
namespace Go.Fw
open Go.Proofs
/-! ### loop.example/g03115/laws.toLaurent -/
noncomputable def f26sig : Sig := ⟨[⟨.pair (.int .i64) (.sl 79 (.pair (.sl 3 (.int .i64)) (.int .i64))), true, false⟩], [⟨.pair (.int .i64) (.sl 59 (.pair (.sl 3 (.int .i64)) (.int .i64))), true, false⟩]⟩
noncomputable def e26 : Entry := ⟨f26sig, (some fun X => laws_toLaurent.P X.1), fun X => ((), ((laws_toLaurent.g X.1), ()))⟩
noncomputable def f26G : Nat → Option Entry := addG (fun _ => none) 58 e58
theorem f26GOk : GOk Try.prog f26G := (GOk.nil).add e58ok (by kernel_rfl)
noncomputable def f26lE : Clean := ⟨[], [], [], [], []⟩
noncomputable def f26s0 (a0 : Int × List (List Int × Int)) : St := initSt f26sig.ps (a0, ())
noncomputable def f26s1 (t2_1 : List (List Int × Int)) (t2_0 : Int) : St := stOf [(2, .c (.box 2 0))] [(2, (25, [.int .i64 t2_0, .own 20000129]))] [(20000129, (⟨59, .pair (.sl 3 (.int .i64)) (.int .i64), t2_1, true, false⟩ : Row))]
noncomputable def f26l1 : Clean := ⟨[2], [2], [], [], [(⟨true, 2, 1⟩, 20000129)]⟩
noncomputable def f26B : Nat → Option Clean := lookL [(1000000, f26l1)]
noncomputable abbrev f26i {ρ : Type} (N : Nat) (c : Code) (p : Plan) (σ : St) (K : KT ρ) : Option ρ := iCode f26G tab f26B N c p σ K
noncomputable def f26c0 := codeAt (bodyOf Try.f26) []
theorem f26t0 {ρ : Type} (N : Nat) (a0 : Int × List (List Int × Int)) (K : KT ρ) : f26i N f26c0 .n (f26s0 a0) (joinK (some f26lE) K) =
  laws_toLaurent.Z0 N a0 (fun t2_1 t2_0 => K .ret (f26s1 t2_1 t2_0)) := by kernel_rfl
theorem f26m (N : Nat) (a0 : Int × List (List Int × Int)) : f26i N f26c0 .n (f26s0 a0) (joinK (some f26lE) (finK tab f26sig Try.f26.results.toList)) = laws_toLaurent.Z0 N a0 (fun t2_1 t2_0 => some ((), ((t2_0, t2_1), ()))) :=
  (f26t0 N a0 (finK tab f26sig Try.f26.results.toList)).trans (by kernel_rfl)
theorem f26ok (h : laws_toLaurent.Spec) : EntryOk Try.prog 26 e26 :=
  entry_of_code (sig := f26sig) (c := f26c0) (pl := .n) (je := (some f26lE)) (B := f26B) Try.func26 (by kernel_rfl) (by kernel_rfl) (by kernel_rfl) tabOk f26GOk (by kernel_rfl) (by kernel_rfl) (by kernel_rfl) (by kernel_rfl) fun X hb hp => by
    obtain ⟨a0, _⟩ := X
    obtain ⟨N, h⟩ := h a0 hb.1 hp
    exact ⟨N, (f26m N a0).trans (h N (Nat.le_refl N))⟩
theorem e26ok : EntryOk Try.prog 26 e26 := f26ok laws_toLaurent.ok
end Go.Fw
set_option linter.unusedVariables false
set_option linter.unusedSimpArgs false
set_option maxRecDepth 100000
namespace Go.Fw
open Go.Proofs
/-! ### loop.example/g03115/spec.l1In -/
noncomputable def f48sig : Sig := ⟨[⟨.int .i64, false, false⟩, ⟨.int .i64, false, false⟩, ⟨.int .i64, false, false⟩], [⟨.bool, false, false⟩]⟩
noncomputable def e48 : Entry := ⟨f48sig, none, fun X => ((), ((spec_l1In.g X.1 X.2.1 X.2.2.1), ()))⟩
noncomputable def f48G : Nat → Option Entry := (fun _ => none)
theorem f48GOk : GOk Try.prog f48G := GOk.nil
noncomputable def f48lE : Clean := ⟨[], [], [], [], []⟩
noncomputable def f48s0 (n0 : Int) (low1 : Int) (high2 : Int) : St := initSt f48sig.ps (n0, (low1, (high2, ())))
noncomputable def f48s1 (t6 : Bool) : St := stOf [(6, .c (.bool t6))] [] []
noncomputable def f48l1 : Clean := ⟨[6], [], [], [], []⟩
noncomputable def f48B : Nat → Option Clean := lookL [(1000000, f48l1)]
noncomputable abbrev f48i {ρ : Type} (N : Nat) (c : Code) (p : Plan) (σ : St) (K : KT ρ) : Option ρ := iCode f48G tab f48B N c p σ K
noncomputable def f48c0 := codeAt (bodyOf Try.f48) []
theorem f48t0 {ρ : Type} (N : Nat) (n0 : Int) (low1 : Int) (high2 : Int) (K : KT ρ) : f48i N f48c0 .n (f48s0 n0 low1 high2) (joinK (some f48lE) K) =
  spec_l1In.Z0 N n0 low1 high2 (fun t6 => K .ret (f48s1 t6)) := by kernel_rfl
theorem f48m (N : Nat) (n0 : Int) (low1 : Int) (high2 : Int) : f48i N f48c0 .n (f48s0 n0 low1 high2) (joinK (some f48lE) (finK tab f48sig Try.f48.results.toList)) = spec_l1In.Z0 N n0 low1 high2 (fun t6 => some ((), (t6, ()))) :=
  (f48t0 N n0 low1 high2 (finK tab f48sig Try.f48.results.toList)).trans (by kernel_rfl)
theorem f48ok (h : spec_l1In.Spec) : EntryOk Try.prog 48 e48 :=
  entry_of_code (sig := f48sig) (c := f48c0) (pl := .n) (je := (some f48lE)) (B := f48B) Try.func48 (by kernel_rfl) (by kernel_rfl) (by kernel_rfl) tabOk f48GOk (by kernel_rfl) (by kernel_rfl) (by kernel_rfl) (by kernel_rfl) fun X hb hp => by
    obtain ⟨n0, low1, high2, _⟩ := X
    obtain ⟨N, h⟩ := h n0 low1 high2
    exact ⟨N, (f48m N n0 low1 high2).trans (h N (Nat.le_refl N))⟩
theorem e48ok : EntryOk Try.prog 48 e48 := f48ok spec_l1In.ok
end Go.Fw
set_option linter.unusedVariables false
set_option linter.unusedSimpArgs false
set_option maxRecDepth 100000
namespace Go.Fw
open Go.Proofs
/-! ### loop.example/g03115/spec.l1Less -/
noncomputable def f79sig : Sig := ⟨[⟨.sl 3 (.int .i64), false, false⟩, ⟨.sl 3 (.int .i64), false, false⟩], [⟨.bool, false, false⟩]⟩
noncomputable def e79 : Entry := ⟨f79sig, none, fun X => ((), ((spec_l1Less.g X.1 X.2.1), ()))⟩
noncomputable def f79G : Nat → Option Entry := (fun _ => none)
theorem f79GOk : GOk Try.prog f79G := GOk.nil
noncomputable def f79lE : Clean := ⟨[], [], [], [], []⟩
noncomputable def f79s0 (a0 : List Int) (b1 : List Int) : St := initSt f79sig.ps (a0, (b1, ()))
noncomputable def f79s1 (a0 : List Int) (b1 : List Int) : St := stOf [(0, .c (.sn 3 (.int .i64) a0 none)), (1, .c (.sn 3 (.int .i64) b1 none))] [] []
noncomputable def f79l1 : Clean := ⟨[0, 1], [], [], [], []⟩
noncomputable def f79s2 (a0 : List Int) (b1 : List Int) (i5 : Int) : St := stOf [(0, .c (.sn 3 (.int .i64) a0 none)), (1, .c (.sn 3 (.int .i64) b1 none)), (5, .c (.int .i64 i5))] [] []
noncomputable def f79l2 : Clean := ⟨[0, 1, 5], [], [], [], []⟩
noncomputable def f79s3 (t4 : Bool) : St := stOf [(4, .c (.bool t4))] [] []
noncomputable def f79l3 : Clean := ⟨[4], [], [], [], []⟩
noncomputable def f79B : Nat → Option Clean := lookL [(0, f79l1), (1000000, f79l3)]
noncomputable abbrev f79i {ρ : Type} (N : Nat) (c : Code) (p : Plan) (σ : St) (K : KT ρ) : Option ρ := iCode f79G tab f79B N c p σ K
noncomputable def f79c1 := codeAt (bodyOf Try.f79) [0]
theorem f79t1 {ρ : Type} (N : Nat) (a0 : List Int) (b1 : List Int) (K : KT ρ) : f79i N f79c1 .n (f79s0 a0 b1) (joinK (some f79l1) K) =
  spec_l1Less.Z1 N a0 b1 (fun a0 b1 => K .nrm (f79s1 a0 b1)) := by kernel_rfl
noncomputable def f79c4 := codeAt (bodyOf Try.f79) [1,0,0]
theorem f79t4 {ρ : Type} (N : Nat) (a0 : List Int) (b1 : List Int) (K : KT ρ) : f79i N f79c4 .n (f79s1 a0 b1) (joinK (some f79l2) K) =
  spec_l1Less.Z4 N a0 b1 (fun a0 b1 i5 => K .nrm (f79s2 a0 b1 i5)) := by kernel_rfl
noncomputable def f79c7 := codeAt (bodyOf Try.f79) [1,0,1,0,0]
theorem f79t7 {ρ : Type} (N : Nat) (a0 : List Int) (b1 : List Int) (i5 : Int) (K : KT ρ) : f79i N f79c7 .n (f79s2 a0 b1 i5) (joinK (some f79l2) K) =
  spec_l1Less.Z7 N a0 b1 i5 (fun a0 b1 i5 => K .nrm (f79s2 a0 b1 i5)) (fun a0 b1 => K (.exit 0) (f79s1 a0 b1)) (fun t4 => K .ret (f79s3 t4)) := by kernel_rfl
noncomputable def f79c6 := codeAt (bodyOf Try.f79) [1,0,1,0]
noncomputable def f79p6 : Plan := .mk none (some f79l2) .n .n
noncomputable abbrev f79w6 {ρ : Type} (N : Nat) (M : Nat) (σ : St) (K : KT ρ) : Option ρ := loopC (fun σ K => f79i N f79c7 .n σ K) f79l2 M σ K
theorem f79t6L {ρ : Type} (N : Nat) (K : KT ρ) : ∀ (M : Nat) (a0 : List Int) (b1 : List Int) (i5 : Int), f79w6 N M (f79s2 a0 b1 i5) K =
  spec_l1Less.Z6L N (fun a0 b1 => K (.exit 0) (f79s1 a0 b1)) (fun t4 => K .ret (f79s3 t4)) M a0 b1 i5
  | 0, _, _, _ => rfl
  | M + 1, a0, b1, i5 => viaRound (fun k => spec_l1Less.Z7 N a0 b1 i5 k (fun a0 b1 => K (.exit 0) (f79s1 a0 b1)) (fun t4 => K .ret (f79s3 t4))) (f79t7 N a0 b1 i5 (seqK (fun σ => f79w6 N M σ K) K)) (funext fun a0 => funext fun b1 => funext fun i5 => f79t6L N K M a0 b1 i5) (by kernel_rfl) (by kernel_rfl)
theorem f79t6 {ρ : Type} (N : Nat) (a0 : List Int) (b1 : List Int) (i5 : Int) (K : KT ρ) : f79i N f79c6 f79p6 (f79s2 a0 b1 i5) (joinK (some f79l1) K) =
  spec_l1Less.Z6 N a0 b1 i5 (fun a0 b1 => K (.exit 0) (f79s1 a0 b1)) (fun t4 => K .ret (f79s3 t4)) :=
  viaLoop (by kernel_rfl) (by kernel_rfl) (σ' := f79s2 a0 b1 i5) (by kernel_rfl) (f79t6L N (joinK (some f79l1) K) N a0 b1 i5) (by kernel_rfl)
noncomputable def f79c5 := codeAt (bodyOf Try.f79) [1,0,1]
noncomputable def f79p5 : Plan := .mk (some f79l1) none f79p6 .n
theorem f79t5 {ρ : Type} (N : Nat) (a0 : List Int) (b1 : List Int) (i5 : Int) (K : KT ρ) : f79i N f79c5 f79p5 (f79s2 a0 b1 i5) (joinK (some f79l1) K) =
  spec_l1Less.Z5 N a0 b1 i5 (fun a0 b1 => K .nrm (f79s1 a0 b1)) (fun t4 => K .ret (f79s3 t4)) :=
  viaBlock (by kernel_rfl) (by kernel_rfl) (f79t6 N a0 b1 i5 (blockK 0 (joinK (some f79l1) K))) (by kernel_rfl)
noncomputable def f79c3 := codeAt (bodyOf Try.f79) [1,0]
noncomputable def f79p3 : Plan := .mk (some f79l2) none .n f79p5
theorem f79t3 {ρ : Type} (N : Nat) (a0 : List Int) (b1 : List Int) (K : KT ρ) : f79i N f79c3 f79p3 (f79s1 a0 b1) (joinK (some f79l1) K) =
  spec_l1Less.Z3 N a0 b1 (fun a0 b1 => K .nrm (f79s1 a0 b1)) (fun t4 => K .ret (f79s3 t4)) :=
  viaSeq (fun k => spec_l1Less.Z4 N a0 b1 k) (by kernel_rfl) (by kernel_rfl) (f79t4 N a0 b1 (seqK (fun σ => f79i N f79c5 f79p5 σ (joinK (some f79l1) K)) (joinK (some f79l1) K))) (funext fun a0 => funext fun b1 => funext fun i5 => f79t5 N a0 b1 i5 K) (by kernel_rfl) (by kernel_rfl)
noncomputable def f79c8 := codeAt (bodyOf Try.f79) [1,1]
theorem f79t8 {ρ : Type} (N : Nat) (a0 : List Int) (b1 : List Int) (K : KT ρ) : f79i N f79c8 .n (f79s1 a0 b1) (joinK (some f79lE) K) =
  spec_l1Less.Z8 N a0 b1 (fun t4 => K .ret (f79s3 t4)) := by kernel_rfl
noncomputable def f79c2 := codeAt (bodyOf Try.f79) [1]
noncomputable def f79p2 : Plan := .mk (some f79l1) none f79p3 .n
theorem f79t2 {ρ : Type} (N : Nat) (a0 : List Int) (b1 : List Int) (K : KT ρ) : f79i N f79c2 f79p2 (f79s1 a0 b1) (joinK (some f79lE) K) =
  spec_l1Less.Z2 N a0 b1 (fun t4 => K .ret (f79s3 t4)) :=
  viaSeq (fun k => spec_l1Less.Z3 N a0 b1 k (fun t4 => K .ret (f79s3 t4))) (by kernel_rfl) (by kernel_rfl) (f79t3 N a0 b1 (seqK (fun σ => f79i N f79c8 .n σ (joinK (some f79lE) K)) (joinK (some f79lE) K))) (funext fun a0 => funext fun b1 => f79t8 N a0 b1 K) (by kernel_rfl) (by kernel_rfl)
noncomputable def f79c0 := codeAt (bodyOf Try.f79) []
noncomputable def f79p0 : Plan := .mk (some f79l1) none .n f79p2
theorem f79t0 {ρ : Type} (N : Nat) (a0 : List Int) (b1 : List Int) (K : KT ρ) : f79i N f79c0 f79p0 (f79s0 a0 b1) (joinK (some f79lE) K) =
  spec_l1Less.Z0 N a0 b1 (fun t4 => K .ret (f79s3 t4)) :=
  viaSeq (fun k => spec_l1Less.Z1 N a0 b1 k) (by kernel_rfl) (by kernel_rfl) (f79t1 N a0 b1 (seqK (fun σ => f79i N f79c2 f79p2 σ (joinK (some f79lE) K)) (joinK (some f79lE) K))) (funext fun a0 => funext fun b1 => f79t2 N a0 b1 K) (by kernel_rfl) (by kernel_rfl)
theorem f79m (N : Nat) (a0 : List Int) (b1 : List Int) : f79i N f79c0 f79p0 (f79s0 a0 b1) (joinK (some f79lE) (finK tab f79sig Try.f79.results.toList)) = spec_l1Less.Z0 N a0 b1 (fun t4 => some ((), (t4, ()))) :=
  (f79t0 N a0 b1 (finK tab f79sig Try.f79.results.toList)).trans (by kernel_rfl)
theorem f79ok (h : spec_l1Less.Spec) : EntryOk Try.prog 79 e79 :=
  entry_of_code (sig := f79sig) (c := f79c0) (pl := f79p0) (je := (some f79lE)) (B := f79B) Try.func79 (by kernel_rfl) (by kernel_rfl) (by kernel_rfl) tabOk f79GOk (by kernel_rfl) (by kernel_rfl) (by kernel_rfl) (by kernel_rfl) fun X hb hp => by
    obtain ⟨a0, b1, _⟩ := X
    obtain ⟨N, h⟩ := h a0 b1 hb.1 hb.2.1
    exact ⟨N, (f79m N a0 b1).trans (h N (Nat.le_refl N))⟩
theorem e79ok : EntryOk Try.prog 79 e79 := f79ok spec_l1Less.ok
end Go.Fw
set_option linter.unusedVariables false
set_option linter.unusedSimpArgs false
set_option maxRecDepth 100000
namespace Go.Fw
open Go.Proofs
/-! ### loop.example/g03115/spec.l2Right -/
noncomputable def f54sig : Sig := ⟨[⟨.pair (.int .i64) (.sl 59 (.pair (.sl 3 (.int .i64)) (.int .i64))), true, false⟩], [⟨.bool, false, false⟩]⟩
noncomputable def e54 : Entry := ⟨f54sig, none, fun X => ((), ((spec_l2Right.g X.1), ()))⟩
noncomputable def f54G : Nat → Option Entry := addG (addG (fun _ => none) 48 e48) 79 e79
theorem f54GOk : GOk Try.prog f54G := ((GOk.nil).add e48ok (by kernel_rfl)).add e79ok (by kernel_rfl)
noncomputable def f54lE : Clean := ⟨[], [], [], [], []⟩
noncomputable def f54s0 (f0 : Int × List (List Int × Int)) : St := initSt f54sig.ps (f0, ())
noncomputable def f54s1 (f1_0 : Int) (f1_1 : List (List Int × Int)) : St := stOf [(1, .c (.box 1 0))] [(1, (25, [.int .i64 f1_0, .sn 59 (.pair (.sl 3 (.int .i64)) (.int .i64)) f1_1 none]))] []
noncomputable def f54l1 : Clean := ⟨[1], [1], [], [], []⟩
noncomputable def f54s2 (k3 : Int) (f1_0 : Int) (f1_1 : List (List Int × Int)) : St := stOf [(1, .c (.box 1 0)), (3, .c (.int .i64 k3))] [(1, (25, [.int .i64 f1_0, .sn 59 (.pair (.sl 3 (.int .i64)) (.int .i64)) f1_1 none]))] []
noncomputable def f54l2 : Clean := ⟨[1, 3], [1], [], [], []⟩
noncomputable def f54s3 (k3 : Int) (f1_0 : Int) (f1_1 : List (List Int × Int)) (t4_0 : List Int) (t4_1 : Int) : St := stOf [(1, .c (.box 1 0)), (3, .c (.int .i64 k3)), (4, .c (.box 4 0))] [(1, (25, [.int .i64 f1_0, .sn 59 (.pair (.sl 3 (.int .i64)) (.int .i64)) f1_1 none])), (4, (59, [.sn 3 (.int .i64) t4_0 none, .int .i64 t4_1]))] []
noncomputable def f54l3 : Clean := ⟨[1, 3, 4], [1, 4], [], [], []⟩
noncomputable def f54s4 (k3 : Int) (i5 : Int) (f1_0 : Int) (f1_1 : List (List Int × Int)) (t4_0 : List Int) (t4_1 : Int) : St := stOf [(1, .c (.box 1 0)), (3, .c (.int .i64 k3)), (4, .c (.box 4 0)), (5, .c (.int .i64 i5))] [(1, (25, [.int .i64 f1_0, .sn 59 (.pair (.sl 3 (.int .i64)) (.int .i64)) f1_1 none])), (4, (59, [.sn 3 (.int .i64) t4_0 none, .int .i64 t4_1]))] []
noncomputable def f54l4 : Clean := ⟨[1, 3, 4, 5], [1, 4], [], [], []⟩
noncomputable def f54s5  : St := stOf [] [] []
noncomputable def f54l5 : Clean := ⟨[], [], [], [], []⟩
noncomputable def f54s6 (t2 : Bool) : St := stOf [(2, .c (.bool t2))] [] []
noncomputable def f54l6 : Clean := ⟨[2], [], [], [], []⟩
noncomputable def f54B : Nat → Option Clean := lookL [(2, f54l2), (1, f54l2), (0, f54l5), (1000000, f54l6)]
noncomputable abbrev f54i {ρ : Type} (N : Nat) (c : Code) (p : Plan) (σ : St) (K : KT ρ) : Option ρ := iCode f54G tab f54B N c p σ K
noncomputable def f54c1 := codeAt (bodyOf Try.f54) [0]
theorem f54t1 {ρ : Type} (N : Nat) (f0 : Int × List (List Int × Int)) (K : KT ρ) : f54i N f54c1 .n (f54s0 f0) (joinK (some f54l1) K) =
  spec_l2Right.Z1 N f0 (fun f1_0 f1_1 => K .nrm (f54s1 f1_0 f1_1)) := by kernel_rfl
noncomputable def f54c3 := codeAt (bodyOf Try.f54) [1,0]
theorem f54t3 {ρ : Type} (N : Nat) (f1_0 : Int) (f1_1 : List (List Int × Int)) (K : KT ρ) : f54i N f54c3 .n (f54s1 f1_0 f1_1) (joinK (some f54l1) K) =
  spec_l2Right.Z3 N f1_0 f1_1 (fun f1_0 f1_1 => K .nrm (f54s1 f1_0 f1_1)) (fun t2 => K .ret (f54s6 t2)) := by kernel_rfl
noncomputable def f54c6 := codeAt (bodyOf Try.f54) [1,1,0,0]
theorem f54t6 {ρ : Type} (N : Nat) (f1_0 : Int) (f1_1 : List (List Int × Int)) (K : KT ρ) : f54i N f54c6 .n (f54s1 f1_0 f1_1) (joinK (some f54l2) K) =
  spec_l2Right.Z6 N f1_0 f1_1 (fun k3 f1_0 f1_1 => K .nrm (f54s2 k3 f1_0 f1_1)) := by kernel_rfl
noncomputable def f54c10 := codeAt (bodyOf Try.f54) [1,1,0,1,0,0,0]
theorem f54t10 {ρ : Type} (N : Nat) (k3 : Int) (f1_0 : Int) (f1_1 : List (List Int × Int)) (K : KT ρ) : f54i N f54c10 .n (f54s2 k3 f1_0 f1_1) (joinK (some f54l2) K) =
  spec_l2Right.Z10 N k3 f1_0 f1_1 (fun k3 f1_0 f1_1 => K .nrm (f54s2 k3 f1_0 f1_1)) (K (.exit 0) f54s5) := by kernel_rfl
noncomputable def f54c14 := codeAt (bodyOf Try.f54) [1,1,0,1,0,0,1,0,0,0]
theorem f54t14 {ρ : Type} (N : Nat) (k3 : Int) (f1_0 : Int) (f1_1 : List (List Int × Int)) (K : KT ρ) : f54i N f54c14 .n (f54s2 k3 f1_0 f1_1) (joinK (some f54l3) K) =
  spec_l2Right.Z14 N k3 f1_0 f1_1 (fun k3 f1_0 f1_1 t4_0 t4_1 => K .nrm (f54s3 k3 f1_0 f1_1 t4_0 t4_1)) := by kernel_rfl
noncomputable def f54c16 := codeAt (bodyOf Try.f54) [1,1,0,1,0,0,1,0,0,1,0]
theorem f54t16 {ρ : Type} (N : Nat) (k3 : Int) (f1_0 : Int) (f1_1 : List (List Int × Int)) (t4_0 : List Int) (t4_1 : Int) (K : KT ρ) : f54i N f54c16 .n (f54s3 k3 f1_0 f1_1 t4_0 t4_1) (joinK (some f54l3) K) =
  spec_l2Right.Z16 N k3 f1_0 f1_1 t4_0 t4_1 (fun k3 f1_0 f1_1 t4_0 t4_1 => K .nrm (f54s3 k3 f1_0 f1_1 t4_0 t4_1)) (fun t2 => K .ret (f54s6 t2)) := by kernel_rfl
noncomputable def f54c18 := codeAt (bodyOf Try.f54) [1,1,0,1,0,0,1,0,0,1,1,0]
theorem f54t18 {ρ : Type} (N : Nat) (k3 : Int) (f1_0 : Int) (f1_1 : List (List Int × Int)) (t4_0 : List Int) (t4_1 : Int) (K : KT ρ) : f54i N f54c18 .n (f54s3 k3 f1_0 f1_1 t4_0 t4_1) (joinK (some f54l4) K) =
  spec_l2Right.Z18 N k3 f1_0 f1_1 t4_0 t4_1 (fun k3 i5 f1_0 f1_1 t4_0 t4_1 => K .nrm (f54s4 k3 i5 f1_0 f1_1 t4_0 t4_1)) := by kernel_rfl
noncomputable def f54c21 := codeAt (bodyOf Try.f54) [1,1,0,1,0,0,1,0,0,1,1,1,0,0]
theorem f54t21 {ρ : Type} (N : Nat) (k3 : Int) (i5 : Int) (f1_0 : Int) (f1_1 : List (List Int × Int)) (t4_0 : List Int) (t4_1 : Int) (K : KT ρ) : f54i N f54c21 .n (f54s4 k3 i5 f1_0 f1_1 t4_0 t4_1) (joinK (some f54l4) K) =
  spec_l2Right.Z21 N k3 i5 f1_0 f1_1 t4_0 t4_1 (fun k3 i5 f1_0 f1_1 t4_0 t4_1 => K .nrm (f54s4 k3 i5 f1_0 f1_1 t4_0 t4_1)) (fun k3 f1_0 f1_1 => K (.exit 2) (f54s2 k3 f1_0 f1_1)) (fun t2 => K .ret (f54s6 t2)) := by kernel_rfl
noncomputable def f54c20 := codeAt (bodyOf Try.f54) [1,1,0,1,0,0,1,0,0,1,1,1,0]
noncomputable def f54p20 : Plan := .mk none (some f54l4) .n .n
noncomputable abbrev f54w20 {ρ : Type} (N : Nat) (M : Nat) (σ : St) (K : KT ρ) : Option ρ := loopC (fun σ K => f54i N f54c21 .n σ K) f54l4 M σ K
theorem f54t20L {ρ : Type} (N : Nat) (K : KT ρ) : ∀ (M : Nat) (k3 : Int) (i5 : Int) (f1_0 : Int) (f1_1 : List (List Int × Int)) (t4_0 : List Int) (t4_1 : Int), f54w20 N M (f54s4 k3 i5 f1_0 f1_1 t4_0 t4_1) K =
  spec_l2Right.Z20L N (fun k3 f1_0 f1_1 => K (.exit 2) (f54s2 k3 f1_0 f1_1)) (fun t2 => K .ret (f54s6 t2)) M k3 i5 f1_0 f1_1 t4_0 t4_1
  | 0, _, _, _, _, _, _ => rfl
  | M + 1, k3, i5, f1_0, f1_1, t4_0, t4_1 => viaRound (fun k => spec_l2Right.Z21 N k3 i5 f1_0 f1_1 t4_0 t4_1 k (fun k3 f1_0 f1_1 => K (.exit 2) (f54s2 k3 f1_0 f1_1)) (fun t2 => K .ret (f54s6 t2))) (f54t21 N k3 i5 f1_0 f1_1 t4_0 t4_1 (seqK (fun σ => f54w20 N M σ K) K)) (funext fun k3 => funext fun i5 => funext fun f1_0 => funext fun f1_1 => funext fun t4_0 => funext fun t4_1 => f54t20L N K M k3 i5 f1_0 f1_1 t4_0 t4_1) (by kernel_rfl) (by kernel_rfl)
theorem f54t20 {ρ : Type} (N : Nat) (k3 : Int) (i5 : Int) (f1_0 : Int) (f1_1 : List (List Int × Int)) (t4_0 : List Int) (t4_1 : Int) (K : KT ρ) : f54i N f54c20 f54p20 (f54s4 k3 i5 f1_0 f1_1 t4_0 t4_1) (joinK (some f54l2) K) =
  spec_l2Right.Z20 N k3 i5 f1_0 f1_1 t4_0 t4_1 (fun k3 f1_0 f1_1 => K (.exit 2) (f54s2 k3 f1_0 f1_1)) (fun t2 => K .ret (f54s6 t2)) :=
  viaLoop (by kernel_rfl) (by kernel_rfl) (σ' := f54s4 k3 i5 f1_0 f1_1 t4_0 t4_1) (by kernel_rfl) (f54t20L N (joinK (some f54l2) K) N k3 i5 f1_0 f1_1 t4_0 t4_1) (by kernel_rfl)
noncomputable def f54c19 := codeAt (bodyOf Try.f54) [1,1,0,1,0,0,1,0,0,1,1,1]
noncomputable def f54p19 : Plan := .mk (some f54l2) none f54p20 .n
theorem f54t19 {ρ : Type} (N : Nat) (k3 : Int) (i5 : Int) (f1_0 : Int) (f1_1 : List (List Int × Int)) (t4_0 : List Int) (t4_1 : Int) (K : KT ρ) : f54i N f54c19 f54p19 (f54s4 k3 i5 f1_0 f1_1 t4_0 t4_1) (joinK (some f54l2) K) =
  spec_l2Right.Z19 N k3 i5 f1_0 f1_1 t4_0 t4_1 (fun k3 f1_0 f1_1 => K .nrm (f54s2 k3 f1_0 f1_1)) (fun t2 => K .ret (f54s6 t2)) :=
  viaBlock (by kernel_rfl) (by kernel_rfl) (f54t20 N k3 i5 f1_0 f1_1 t4_0 t4_1 (blockK 2 (joinK (some f54l2) K))) (by kernel_rfl)
noncomputable def f54c17 := codeAt (bodyOf Try.f54) [1,1,0,1,0,0,1,0,0,1,1]
noncomputable def f54p17 : Plan := .mk (some f54l4) none .n f54p19
theorem f54t17 {ρ : Type} (N : Nat) (k3 : Int) (f1_0 : Int) (f1_1 : List (List Int × Int)) (t4_0 : List Int) (t4_1 : Int) (K : KT ρ) : f54i N f54c17 f54p17 (f54s3 k3 f1_0 f1_1 t4_0 t4_1) (joinK (some f54l2) K) =
  spec_l2Right.Z17 N k3 f1_0 f1_1 t4_0 t4_1 (fun k3 f1_0 f1_1 => K .nrm (f54s2 k3 f1_0 f1_1)) (fun t2 => K .ret (f54s6 t2)) :=
  viaSeq (fun k => spec_l2Right.Z18 N k3 f1_0 f1_1 t4_0 t4_1 k) (by kernel_rfl) (by kernel_rfl) (f54t18 N k3 f1_0 f1_1 t4_0 t4_1 (seqK (fun σ => f54i N f54c19 f54p19 σ (joinK (some f54l2) K)) (joinK (some f54l2) K))) (funext fun k3 => funext fun i5 => funext fun f1_0 => funext fun f1_1 => funext fun t4_0 => funext fun t4_1 => f54t19 N k3 i5 f1_0 f1_1 t4_0 t4_1 K) (by kernel_rfl) (by kernel_rfl)
noncomputable def f54c15 := codeAt (bodyOf Try.f54) [1,1,0,1,0,0,1,0,0,1]
noncomputable def f54p15 : Plan := .mk (some f54l3) none .n f54p17
theorem f54t15 {ρ : Type} (N : Nat) (k3 : Int) (f1_0 : Int) (f1_1 : List (List Int × Int)) (t4_0 : List Int) (t4_1 : Int) (K : KT ρ) : f54i N f54c15 f54p15 (f54s3 k3 f1_0 f1_1 t4_0 t4_1) (joinK (some f54l2) K) =
  spec_l2Right.Z15 N k3 f1_0 f1_1 t4_0 t4_1 (fun k3 f1_0 f1_1 => K .nrm (f54s2 k3 f1_0 f1_1)) (fun t2 => K .ret (f54s6 t2)) :=
  viaSeq (fun k => spec_l2Right.Z16 N k3 f1_0 f1_1 t4_0 t4_1 k (fun t2 => K .ret (f54s6 t2))) (by kernel_rfl) (by kernel_rfl) (f54t16 N k3 f1_0 f1_1 t4_0 t4_1 (seqK (fun σ => f54i N f54c17 f54p17 σ (joinK (some f54l2) K)) (joinK (some f54l2) K))) (funext fun k3 => funext fun f1_0 => funext fun f1_1 => funext fun t4_0 => funext fun t4_1 => f54t17 N k3 f1_0 f1_1 t4_0 t4_1 K) (by kernel_rfl) (by kernel_rfl)
noncomputable def f54c13 := codeAt (bodyOf Try.f54) [1,1,0,1,0,0,1,0,0]
noncomputable def f54p13 : Plan := .mk (some f54l3) none .n f54p15
theorem f54t13 {ρ : Type} (N : Nat) (k3 : Int) (f1_0 : Int) (f1_1 : List (List Int × Int)) (K : KT ρ) : f54i N f54c13 f54p13 (f54s2 k3 f1_0 f1_1) (joinK (some f54l2) K) =
  spec_l2Right.Z13 N k3 f1_0 f1_1 (fun k3 f1_0 f1_1 => K .nrm (f54s2 k3 f1_0 f1_1)) (fun t2 => K .ret (f54s6 t2)) :=
  viaSeq (fun k => spec_l2Right.Z14 N k3 f1_0 f1_1 k) (by kernel_rfl) (by kernel_rfl) (f54t14 N k3 f1_0 f1_1 (seqK (fun σ => f54i N f54c15 f54p15 σ (joinK (some f54l2) K)) (joinK (some f54l2) K))) (funext fun k3 => funext fun f1_0 => funext fun f1_1 => funext fun t4_0 => funext fun t4_1 => f54t15 N k3 f1_0 f1_1 t4_0 t4_1 K) (by kernel_rfl) (by kernel_rfl)
noncomputable def f54c12 := codeAt (bodyOf Try.f54) [1,1,0,1,0,0,1,0]
noncomputable def f54p12 : Plan := .mk (some f54l2) none f54p13 .n
theorem f54t12 {ρ : Type} (N : Nat) (k3 : Int) (f1_0 : Int) (f1_1 : List (List Int × Int)) (K : KT ρ) : f54i N f54c12 f54p12 (f54s2 k3 f1_0 f1_1) (joinK (some f54l2) K) =
  spec_l2Right.Z12 N k3 f1_0 f1_1 (fun k3 f1_0 f1_1 => K .nrm (f54s2 k3 f1_0 f1_1)) (fun t2 => K .ret (f54s6 t2)) :=
  viaBlock (by kernel_rfl) (by kernel_rfl) (f54t13 N k3 f1_0 f1_1 (blockK 1 (joinK (some f54l2) K))) (by kernel_rfl)
noncomputable def f54c22 := codeAt (bodyOf Try.f54) [1,1,0,1,0,0,1,1]
theorem f54t22 {ρ : Type} (N : Nat) (k3 : Int) (f1_0 : Int) (f1_1 : List (List Int × Int)) (K : KT ρ) : f54i N f54c22 .n (f54s2 k3 f1_0 f1_1) (joinK (some f54l2) K) =
  spec_l2Right.Z22 N k3 f1_0 f1_1 (fun k3 f1_0 f1_1 => K .nrm (f54s2 k3 f1_0 f1_1)) := by kernel_rfl
noncomputable def f54c11 := codeAt (bodyOf Try.f54) [1,1,0,1,0,0,1]
noncomputable def f54p11 : Plan := .mk (some f54l2) none f54p12 .n
theorem f54t11 {ρ : Type} (N : Nat) (k3 : Int) (f1_0 : Int) (f1_1 : List (List Int × Int)) (K : KT ρ) : f54i N f54c11 f54p11 (f54s2 k3 f1_0 f1_1) (joinK (some f54l2) K) =
  spec_l2Right.Z11 N k3 f1_0 f1_1 (fun k3 f1_0 f1_1 => K .nrm (f54s2 k3 f1_0 f1_1)) (fun t2 => K .ret (f54s6 t2)) :=
  viaSeq (fun k => spec_l2Right.Z12 N k3 f1_0 f1_1 k (fun t2 => K .ret (f54s6 t2))) (by kernel_rfl) (by kernel_rfl) (f54t12 N k3 f1_0 f1_1 (seqK (fun σ => f54i N f54c22 .n σ (joinK (some f54l2) K)) (joinK (some f54l2) K))) (funext fun k3 => funext fun f1_0 => funext fun f1_1 => f54t22 N k3 f1_0 f1_1 K) (by kernel_rfl) (by kernel_rfl)
noncomputable def f54c9 := codeAt (bodyOf Try.f54) [1,1,0,1,0,0]
noncomputable def f54p9 : Plan := .mk (some f54l2) none .n f54p11
theorem f54t9 {ρ : Type} (N : Nat) (k3 : Int) (f1_0 : Int) (f1_1 : List (List Int × Int)) (K : KT ρ) : f54i N f54c9 f54p9 (f54s2 k3 f1_0 f1_1) (joinK (some f54l2) K) =
  spec_l2Right.Z9 N k3 f1_0 f1_1 (fun k3 f1_0 f1_1 => K .nrm (f54s2 k3 f1_0 f1_1)) (K (.exit 0) f54s5) (fun t2 => K .ret (f54s6 t2)) :=
  viaSeq (fun k => spec_l2Right.Z10 N k3 f1_0 f1_1 k (K (.exit 0) f54s5)) (by kernel_rfl) (by kernel_rfl) (f54t10 N k3 f1_0 f1_1 (seqK (fun σ => f54i N f54c11 f54p11 σ (joinK (some f54l2) K)) (joinK (some f54l2) K))) (funext fun k3 => funext fun f1_0 => funext fun f1_1 => f54t11 N k3 f1_0 f1_1 K) (by kernel_rfl) (by kernel_rfl)
noncomputable def f54c8 := codeAt (bodyOf Try.f54) [1,1,0,1,0]
noncomputable def f54p8 : Plan := .mk none (some f54l2) f54p9 .n
noncomputable abbrev f54w8 {ρ : Type} (N : Nat) (M : Nat) (σ : St) (K : KT ρ) : Option ρ := loopC (fun σ K => f54i N f54c9 f54p9 σ K) f54l2 M σ K
theorem f54t8L {ρ : Type} (N : Nat) (K : KT ρ) : ∀ (M : Nat) (k3 : Int) (f1_0 : Int) (f1_1 : List (List Int × Int)), f54w8 N M (f54s2 k3 f1_0 f1_1) K =
  spec_l2Right.Z8L N (K (.exit 0) f54s5) (fun t2 => K .ret (f54s6 t2)) M k3 f1_0 f1_1
  | 0, _, _, _ => rfl
  | M + 1, k3, f1_0, f1_1 => viaRound (fun k => spec_l2Right.Z9 N k3 f1_0 f1_1 k (K (.exit 0) f54s5) (fun t2 => K .ret (f54s6 t2))) (f54t9 N k3 f1_0 f1_1 (seqK (fun σ => f54w8 N M σ K) K)) (funext fun k3 => funext fun f1_0 => funext fun f1_1 => f54t8L N K M k3 f1_0 f1_1) (by kernel_rfl) (by kernel_rfl)
theorem f54t8 {ρ : Type} (N : Nat) (k3 : Int) (f1_0 : Int) (f1_1 : List (List Int × Int)) (K : KT ρ) : f54i N f54c8 f54p8 (f54s2 k3 f1_0 f1_1) (joinK (some f54l5) K) =
  spec_l2Right.Z8 N k3 f1_0 f1_1 (K (.exit 0) f54s5) (fun t2 => K .ret (f54s6 t2)) :=
  viaLoop (by kernel_rfl) (by kernel_rfl) (σ' := f54s2 k3 f1_0 f1_1) (by kernel_rfl) (f54t8L N (joinK (some f54l5) K) N k3 f1_0 f1_1) (by kernel_rfl)
noncomputable def f54c7 := codeAt (bodyOf Try.f54) [1,1,0,1]
noncomputable def f54p7 : Plan := .mk (some f54l5) none f54p8 .n
theorem f54t7 {ρ : Type} (N : Nat) (k3 : Int) (f1_0 : Int) (f1_1 : List (List Int × Int)) (K : KT ρ) : f54i N f54c7 f54p7 (f54s2 k3 f1_0 f1_1) (joinK (some f54l5) K) =
  spec_l2Right.Z7 N k3 f1_0 f1_1 (K .nrm f54s5) (fun t2 => K .ret (f54s6 t2)) :=
  viaBlock (by kernel_rfl) (by kernel_rfl) (f54t8 N k3 f1_0 f1_1 (blockK 0 (joinK (some f54l5) K))) (by kernel_rfl)
noncomputable def f54c5 := codeAt (bodyOf Try.f54) [1,1,0]
noncomputable def f54p5 : Plan := .mk (some f54l2) none .n f54p7
theorem f54t5 {ρ : Type} (N : Nat) (f1_0 : Int) (f1_1 : List (List Int × Int)) (K : KT ρ) : f54i N f54c5 f54p5 (f54s1 f1_0 f1_1) (joinK (some f54l5) K) =
  spec_l2Right.Z5 N f1_0 f1_1 (K .nrm f54s5) (fun t2 => K .ret (f54s6 t2)) :=
  viaSeq (fun k => spec_l2Right.Z6 N f1_0 f1_1 k) (by kernel_rfl) (by kernel_rfl) (f54t6 N f1_0 f1_1 (seqK (fun σ => f54i N f54c7 f54p7 σ (joinK (some f54l5) K)) (joinK (some f54l5) K))) (funext fun k3 => funext fun f1_0 => funext fun f1_1 => f54t7 N k3 f1_0 f1_1 K) (by kernel_rfl) (by kernel_rfl)
noncomputable def f54c23 := codeAt (bodyOf Try.f54) [1,1,1]
theorem f54t23 {ρ : Type} (N : Nat)  (K : KT ρ) : f54i N f54c23 .n f54s5 (joinK (some f54lE) K) =
  spec_l2Right.Z23 N (fun t2 => K .ret (f54s6 t2)) := by kernel_rfl
noncomputable def f54c4 := codeAt (bodyOf Try.f54) [1,1]
noncomputable def f54p4 : Plan := .mk (some f54l5) none f54p5 .n
theorem f54t4 {ρ : Type} (N : Nat) (f1_0 : Int) (f1_1 : List (List Int × Int)) (K : KT ρ) : f54i N f54c4 f54p4 (f54s1 f1_0 f1_1) (joinK (some f54lE) K) =
  spec_l2Right.Z4 N f1_0 f1_1 (fun t2 => K .ret (f54s6 t2)) :=
  viaSeq (fun k => spec_l2Right.Z5 N f1_0 f1_1 k (fun t2 => K .ret (f54s6 t2))) (by kernel_rfl) (by kernel_rfl) (f54t5 N f1_0 f1_1 (seqK (fun σ => f54i N f54c23 .n σ (joinK (some f54lE) K)) (joinK (some f54lE) K))) (f54t23 N K) (by kernel_rfl) (by kernel_rfl)
noncomputable def f54c2 := codeAt (bodyOf Try.f54) [1]
noncomputable def f54p2 : Plan := .mk (some f54l1) none .n f54p4
theorem f54t2 {ρ : Type} (N : Nat) (f1_0 : Int) (f1_1 : List (List Int × Int)) (K : KT ρ) : f54i N f54c2 f54p2 (f54s1 f1_0 f1_1) (joinK (some f54lE) K) =
  spec_l2Right.Z2 N f1_0 f1_1 (fun t2 => K .ret (f54s6 t2)) :=
  viaSeq (fun k => spec_l2Right.Z3 N f1_0 f1_1 k (fun t2 => K .ret (f54s6 t2))) (by kernel_rfl) (by kernel_rfl) (f54t3 N f1_0 f1_1 (seqK (fun σ => f54i N f54c4 f54p4 σ (joinK (some f54lE) K)) (joinK (some f54lE) K))) (funext fun f1_0 => funext fun f1_1 => f54t4 N f1_0 f1_1 K) (by kernel_rfl) (by kernel_rfl)
noncomputable def f54c0 := codeAt (bodyOf Try.f54) []
noncomputable def f54p0 : Plan := .mk (some f54l1) none .n f54p2
theorem f54t0 {ρ : Type} (N : Nat) (f0 : Int × List (List Int × Int)) (K : KT ρ) : f54i N f54c0 f54p0 (f54s0 f0) (joinK (some f54lE) K) =
  spec_l2Right.Z0 N f0 (fun t2 => K .ret (f54s6 t2)) :=
  viaSeq (fun k => spec_l2Right.Z1 N f0 k) (by kernel_rfl) (by kernel_rfl) (f54t1 N f0 (seqK (fun σ => f54i N f54c2 f54p2 σ (joinK (some f54lE) K)) (joinK (some f54lE) K))) (funext fun f1_0 => funext fun f1_1 => f54t2 N f1_0 f1_1 K) (by kernel_rfl) (by kernel_rfl)
theorem f54m (N : Nat) (f0 : Int × List (List Int × Int)) : f54i N f54c0 f54p0 (f54s0 f0) (joinK (some f54lE) (finK tab f54sig Try.f54.results.toList)) = spec_l2Right.Z0 N f0 (fun t2 => some ((), (t2, ()))) :=
  (f54t0 N f0 (finK tab f54sig Try.f54.results.toList)).trans (by kernel_rfl)
theorem f54ok (h : spec_l2Right.Spec) : EntryOk Try.prog 54 e54 :=
  entry_of_code (sig := f54sig) (c := f54c0) (pl := f54p0) (je := (some f54lE)) (B := f54B) Try.func54 (by kernel_rfl) (by kernel_rfl) (by kernel_rfl) tabOk f54GOk (by kernel_rfl) (by kernel_rfl) (by kernel_rfl) (by kernel_rfl) fun X hb hp => by
    obtain ⟨f0, _⟩ := X
    obtain ⟨N, h⟩ := h f0 hb.1
    exact ⟨N, (f54m N f0).trans (h N (Nat.le_refl N))⟩
theorem e54ok : EntryOk Try.prog 54 e54 := f54ok spec_l2Right.ok
end Go.Fw
set_option linter.unusedVariables false
set_option linter.unusedSimpArgs false
set_option maxRecDepth 100000
namespace Go.Fw
open Go.Proofs
/-! ### loop.example/g03115/spec.l2Residue -/
noncomputable def f71sig : Sig := ⟨[⟨.int .i64, false, false⟩], [⟨.int .i64, false, false⟩]⟩
noncomputable def e71 : Entry := ⟨f71sig, none, fun X => ((), ((spec_l2Residue.g X.1), ()))⟩
noncomputable def f71G : Nat → Option Entry := (fun _ => none)
theorem f71GOk : GOk Try.prog f71G := GOk.nil
noncomputable def f71lE : Clean := ⟨[], [], [], [], []⟩
noncomputable def f71s0 (n0 : Int) : St := initSt f71sig.ps (n0, ())
noncomputable def f71s1 (t2 : Int) : St := stOf [(2, .c (.int .i64 t2))] [] []
noncomputable def f71l1 : Clean := ⟨[2], [], [], [], []⟩
noncomputable def f71B : Nat → Option Clean := lookL [(1000000, f71l1)]
noncomputable abbrev f71i {ρ : Type} (N : Nat) (c : Code) (p : Plan) (σ : St) (K : KT ρ) : Option ρ := iCode f71G tab f71B N c p σ K
noncomputable def f71c0 := codeAt (bodyOf Try.f71) []
theorem f71t0 {ρ : Type} (N : Nat) (n0 : Int) (K : KT ρ) : f71i N f71c0 .n (f71s0 n0) (joinK (some f71lE) K) =
  spec_l2Residue.Z0 N n0 (fun t2 => K .ret (f71s1 t2)) := by kernel_rfl
theorem f71m (N : Nat) (n0 : Int) : f71i N f71c0 .n (f71s0 n0) (joinK (some f71lE) (finK tab f71sig Try.f71.results.toList)) = spec_l2Residue.Z0 N n0 (fun t2 => some ((), (t2, ()))) :=
  (f71t0 N n0 (finK tab f71sig Try.f71.results.toList)).trans (by kernel_rfl)
theorem f71ok (h : spec_l2Residue.Spec) : EntryOk Try.prog 71 e71 :=
  entry_of_code (sig := f71sig) (c := f71c0) (pl := .n) (je := (some f71lE)) (B := f71B) Try.func71 (by kernel_rfl) (by kernel_rfl) (by kernel_rfl) tabOk f71GOk (by kernel_rfl) (by kernel_rfl) (by kernel_rfl) (by kernel_rfl) fun X hb hp => by
    obtain ⟨n0, _⟩ := X
    obtain ⟨N, h⟩ := h n0
    exact ⟨N, (f71m N n0).trans (h N (Nat.le_refl N))⟩
theorem e71ok : EntryOk Try.prog 71 e71 := f71ok spec_l2Residue.ok
end Go.Fw
set_option linter.unusedVariables false
set_option linter.unusedSimpArgs false
set_option maxRecDepth 100000
namespace Go.Fw
open Go.Proofs
/-! ### loop.example/g03115/spec.l2Power -/
noncomputable def f72sig : Sig := ⟨[⟨.int .i64, false, false⟩, ⟨.int .i64, false, false⟩], [⟨.int .i64, false, false⟩]⟩
noncomputable def e72S (m : Nat) : Entry := ⟨f72sig, (some (below (fun X => spec_l2Power.mu X.1 X.2.1) (fun X => spec_l2Power.P X.1 X.2.1) m)), fun X => ((), ((spec_l2Power.g X.1 X.2.1), ()))⟩
noncomputable def e72 : Entry := ⟨f72sig, (some fun X => spec_l2Power.P X.1 X.2.1), fun X => ((), ((spec_l2Power.g X.1 X.2.1), ()))⟩
noncomputable def f72G (m : Nat) : Nat → Option Entry := addG (fun _ => none) 72 (e72S m)
theorem f72GOk (m : Nat) (hself : EntryOk Try.prog 72 (e72S m)) : GOk Try.prog (f72G m) := (GOk.nil).add hself (by kernel_rfl)
noncomputable def f72lE : Clean := ⟨[], [], [], [], []⟩
noncomputable def f72s0 (x0 : Int) (n1 : Int) : St := initSt f72sig.ps (x0, (n1, ()))
noncomputable def f72s1 (x0 : Int) (n1 : Int) : St := stOf [(0, .c (.int .i64 x0)), (1, .c (.int .i64 n1))] [] []
noncomputable def f72l1 : Clean := ⟨[0, 1], [], [], [], []⟩
noncomputable def f72s2 (x0 : Int) (n1 : Int) (out5 : Int) : St := stOf [(0, .c (.int .i64 x0)), (1, .c (.int .i64 n1)), (5, .c (.int .i64 out5))] [] []
noncomputable def f72l2 : Clean := ⟨[0, 1, 5], [], [], [], []⟩
noncomputable def f72s3 (out5 : Int) : St := stOf [(5, .c (.int .i64 out5))] [] []
noncomputable def f72l3 : Clean := ⟨[5], [], [], [], []⟩
noncomputable def f72s4 (t4 : Int) : St := stOf [(4, .c (.int .i64 t4))] [] []
noncomputable def f72l4 : Clean := ⟨[4], [], [], [], []⟩
noncomputable def f72B : Nat → Option Clean := lookL [(0, f72l3), (1000000, f72l4)]
noncomputable abbrev f72i {ρ : Type} (N : Nat) (m : Nat) (c : Code) (p : Plan) (σ : St) (K : KT ρ) : Option ρ := iCode (f72G m) tab f72B N c p σ K
noncomputable def f72c1 := codeAt (bodyOf Try.f72) [0]
theorem f72t1 {ρ : Type} (N : Nat) (m : Nat) (x0 : Int) (n1 : Int) (K : KT ρ) : f72i N m f72c1 .n (f72s0 x0 n1) (joinK (some f72l1) K) =
  spec_l2Power.Z1 N m x0 n1 (fun x0 n1 => K .nrm (f72s1 x0 n1)) := by kernel_rfl
noncomputable def f72c3 := codeAt (bodyOf Try.f72) [1,0]
theorem f72t3 {ρ : Type} (N : Nat) (m : Nat) (x0 : Int) (n1 : Int) (K : KT ρ) : f72i N m f72c3 .n (f72s1 x0 n1) (joinK (some f72l1) K) =
  spec_l2Power.Z3 N m x0 n1 (fun x0 n1 => K .nrm (f72s1 x0 n1)) (fun t4 => K .ret (f72s4 t4)) := by kernel_rfl
noncomputable def f72c5 := codeAt (bodyOf Try.f72) [1,1,0]
theorem f72t5 {ρ : Type} (N : Nat) (m : Nat) (x0 : Int) (n1 : Int) (K : KT ρ) : f72i N m f72c5 .n (f72s1 x0 n1) (joinK (some f72l2) K) =
  spec_l2Power.Z5 N m x0 n1 (fun x0 n1 out5 => K .nrm (f72s2 x0 n1 out5)) := by kernel_rfl
noncomputable def f72c9 := codeAt (bodyOf Try.f72) [1,1,1,0,0,0]
theorem f72t9 {ρ : Type} (N : Nat) (m : Nat) (x0 : Int) (n1 : Int) (out5 : Int) (K : KT ρ) : f72i N m f72c9 .n (f72s2 x0 n1 out5) (joinK (some f72l2) K) =
  spec_l2Power.Z9 N m x0 n1 out5 (fun x0 n1 out5 => K .nrm (f72s2 x0 n1 out5)) (fun out5 => K (.exit 0) (f72s3 out5)) := by kernel_rfl
noncomputable def f72c8 := codeAt (bodyOf Try.f72) [1,1,1,0,0]
noncomputable def f72p8 : Plan := .mk none (some f72l2) .n .n
noncomputable abbrev f72w8 {ρ : Type} (N : Nat) (m : Nat) (M : Nat) (σ : St) (K : KT ρ) : Option ρ := loopC (fun σ K => f72i N m f72c9 .n σ K) f72l2 M σ K
theorem f72t8L {ρ : Type} (N : Nat) (m : Nat) (K : KT ρ) : ∀ (M : Nat) (x0 : Int) (n1 : Int) (out5 : Int), f72w8 N m M (f72s2 x0 n1 out5) K =
  spec_l2Power.Z8L N m (fun out5 => K (.exit 0) (f72s3 out5)) M x0 n1 out5
  | 0, _, _, _ => rfl
  | M + 1, x0, n1, out5 => viaRound (fun k => spec_l2Power.Z9 N m x0 n1 out5 k (fun out5 => K (.exit 0) (f72s3 out5))) (f72t9 N m x0 n1 out5 (seqK (fun σ => f72w8 N m M σ K) K)) (funext fun x0 => funext fun n1 => funext fun out5 => f72t8L N m K M x0 n1 out5) (by kernel_rfl) (by kernel_rfl)
theorem f72t8 {ρ : Type} (N : Nat) (m : Nat) (x0 : Int) (n1 : Int) (out5 : Int) (K : KT ρ) : f72i N m f72c8 f72p8 (f72s2 x0 n1 out5) (joinK (some f72l3) K) =
  spec_l2Power.Z8 N m x0 n1 out5 (fun out5 => K (.exit 0) (f72s3 out5)) :=
  viaLoop (by kernel_rfl) (by kernel_rfl) (σ' := f72s2 x0 n1 out5) (by kernel_rfl) (f72t8L N m (joinK (some f72l3) K) N x0 n1 out5) (by kernel_rfl)
noncomputable def f72c7 := codeAt (bodyOf Try.f72) [1,1,1,0]
noncomputable def f72p7 : Plan := .mk (some f72l3) none f72p8 .n
theorem f72t7 {ρ : Type} (N : Nat) (m : Nat) (x0 : Int) (n1 : Int) (out5 : Int) (K : KT ρ) : f72i N m f72c7 f72p7 (f72s2 x0 n1 out5) (joinK (some f72l3) K) =
  spec_l2Power.Z7 N m x0 n1 out5 (fun out5 => K .nrm (f72s3 out5)) :=
  viaBlock (by kernel_rfl) (by kernel_rfl) (f72t8 N m x0 n1 out5 (blockK 0 (joinK (some f72l3) K))) (by kernel_rfl)
noncomputable def f72c10 := codeAt (bodyOf Try.f72) [1,1,1,1]
theorem f72t10 {ρ : Type} (N : Nat) (m : Nat) (out5 : Int) (K : KT ρ) : f72i N m f72c10 .n (f72s3 out5) (joinK (some f72lE) K) =
  spec_l2Power.Z10 N m out5 (fun t4 => K .ret (f72s4 t4)) := by kernel_rfl
noncomputable def f72c6 := codeAt (bodyOf Try.f72) [1,1,1]
noncomputable def f72p6 : Plan := .mk (some f72l3) none f72p7 .n
theorem f72t6 {ρ : Type} (N : Nat) (m : Nat) (x0 : Int) (n1 : Int) (out5 : Int) (K : KT ρ) : f72i N m f72c6 f72p6 (f72s2 x0 n1 out5) (joinK (some f72lE) K) =
  spec_l2Power.Z6 N m x0 n1 out5 (fun t4 => K .ret (f72s4 t4)) :=
  viaSeq (fun k => spec_l2Power.Z7 N m x0 n1 out5 k) (by kernel_rfl) (by kernel_rfl) (f72t7 N m x0 n1 out5 (seqK (fun σ => f72i N m f72c10 .n σ (joinK (some f72lE) K)) (joinK (some f72lE) K))) (funext fun out5 => f72t10 N m out5 K) (by kernel_rfl) (by kernel_rfl)
noncomputable def f72c4 := codeAt (bodyOf Try.f72) [1,1]
noncomputable def f72p4 : Plan := .mk (some f72l2) none .n f72p6
theorem f72t4 {ρ : Type} (N : Nat) (m : Nat) (x0 : Int) (n1 : Int) (K : KT ρ) : f72i N m f72c4 f72p4 (f72s1 x0 n1) (joinK (some f72lE) K) =
  spec_l2Power.Z4 N m x0 n1 (fun t4 => K .ret (f72s4 t4)) :=
  viaSeq (fun k => spec_l2Power.Z5 N m x0 n1 k) (by kernel_rfl) (by kernel_rfl) (f72t5 N m x0 n1 (seqK (fun σ => f72i N m f72c6 f72p6 σ (joinK (some f72lE) K)) (joinK (some f72lE) K))) (funext fun x0 => funext fun n1 => funext fun out5 => f72t6 N m x0 n1 out5 K) (by kernel_rfl) (by kernel_rfl)
noncomputable def f72c2 := codeAt (bodyOf Try.f72) [1]
noncomputable def f72p2 : Plan := .mk (some f72l1) none .n f72p4
theorem f72t2 {ρ : Type} (N : Nat) (m : Nat) (x0 : Int) (n1 : Int) (K : KT ρ) : f72i N m f72c2 f72p2 (f72s1 x0 n1) (joinK (some f72lE) K) =
  spec_l2Power.Z2 N m x0 n1 (fun t4 => K .ret (f72s4 t4)) :=
  viaSeq (fun k => spec_l2Power.Z3 N m x0 n1 k (fun t4 => K .ret (f72s4 t4))) (by kernel_rfl) (by kernel_rfl) (f72t3 N m x0 n1 (seqK (fun σ => f72i N m f72c4 f72p4 σ (joinK (some f72lE) K)) (joinK (some f72lE) K))) (funext fun x0 => funext fun n1 => f72t4 N m x0 n1 K) (by kernel_rfl) (by kernel_rfl)
noncomputable def f72c0 := codeAt (bodyOf Try.f72) []
noncomputable def f72p0 : Plan := .mk (some f72l1) none .n f72p2
theorem f72t0 {ρ : Type} (N : Nat) (m : Nat) (x0 : Int) (n1 : Int) (K : KT ρ) : f72i N m f72c0 f72p0 (f72s0 x0 n1) (joinK (some f72lE) K) =
  spec_l2Power.Z0 N m x0 n1 (fun t4 => K .ret (f72s4 t4)) :=
  viaSeq (fun k => spec_l2Power.Z1 N m x0 n1 k) (by kernel_rfl) (by kernel_rfl) (f72t1 N m x0 n1 (seqK (fun σ => f72i N m f72c2 f72p2 σ (joinK (some f72lE) K)) (joinK (some f72lE) K))) (funext fun x0 => funext fun n1 => f72t2 N m x0 n1 K) (by kernel_rfl) (by kernel_rfl)
theorem f72m (N : Nat) (m : Nat) (x0 : Int) (n1 : Int) : f72i N m f72c0 f72p0 (f72s0 x0 n1) (joinK (some f72lE) (finK tab f72sig Try.f72.results.toList)) = spec_l2Power.Z0 N m x0 n1 (fun t4 => some ((), (t4, ()))) :=
  (f72t0 N m x0 n1 (finK tab f72sig Try.f72.results.toList)).trans (by kernel_rfl)
theorem f72ok (h : spec_l2Power.Spec) : EntryOk Try.prog 72 e72 :=
  EntryOk.rec (μ := fun X => spec_l2Power.mu X.1 X.2.1) (fun m hself => entry_of_code (sig := f72sig) (c := f72c0) (pl := f72p0) (je := (some f72lE)) (B := f72B) Try.func72 (by kernel_rfl) (by kernel_rfl) (by kernel_rfl) tabOk (f72GOk m hself) (by kernel_rfl) (by kernel_rfl) (by kernel_rfl) (by kernel_rfl) fun X hb hp => by
    obtain ⟨x0, n1, _⟩ := X
    obtain ⟨N, h⟩ := h m x0 n1 hp
    exact ⟨N, (f72m N m x0 n1).trans (h N (Nat.le_refl N))⟩)
theorem e72ok : EntryOk Try.prog 72 e72 := f72ok spec_l2Power.ok
end Go.Fw
set_option linter.unusedVariables false
set_option linter.unusedSimpArgs false
set_option maxRecDepth 100000
namespace Go.Fw
open Go.Proofs
/-! ### loop.example/g03115/spec.EvaluateLaurent -/
noncomputable def f46sig : Sig := ⟨[⟨.pair (.int .i64) (.sl 59 (.pair (.sl 3 (.int .i64)) (.int .i64))), true, false⟩, ⟨.sl 3 (.int .i64), false, false⟩], [⟨.int .i64, false, false⟩]⟩
noncomputable def e46 : Entry := ⟨f46sig, none, fun X => ((), ((spec_EvaluateLaurent.g X.1 X.2.1), ()))⟩
noncomputable def f46G : Nat → Option Entry := addG (addG (addG (fun _ => none) 54 e54) 71 e71) 72 e72
theorem f46GOk : GOk Try.prog f46G := (((GOk.nil).add e54ok (by kernel_rfl)).add e71ok (by kernel_rfl)).add e72ok (by kernel_rfl)
noncomputable def f46lE : Clean := ⟨[], [], [], [], []⟩
noncomputable def f46s0 (f0 : Int × List (List Int × Int)) (values1 : List Int) : St := initSt f46sig.ps (f0, (values1, ()))
noncomputable def f46s1 (values1 : List Int) (f2_0 : Int) (f2_1 : List (List Int × Int)) : St := stOf [(1, .c (.sn 3 (.int .i64) values1 none)), (2, .c (.box 2 0))] [(2, (25, [.int .i64 f2_0, .sn 59 (.pair (.sl 3 (.int .i64)) (.int .i64)) f2_1 none]))] []
noncomputable def f46l1 : Clean := ⟨[1, 2], [2], [], [], []⟩
noncomputable def f46s2 (values1 : List Int) (sum5 : Int) (f2_0 : Int) (f2_1 : List (List Int × Int)) : St := stOf [(1, .c (.sn 3 (.int .i64) values1 none)), (2, .c (.box 2 0)), (5, .c (.int .i64 sum5))] [(2, (25, [.int .i64 f2_0, .sn 59 (.pair (.sl 3 (.int .i64)) (.int .i64)) f2_1 none]))] []
noncomputable def f46l2 : Clean := ⟨[1, 2, 5], [2], [], [], []⟩
noncomputable def f46s3 (values1 : List Int) (sum5 : Int) (i6 : Int) (f2_0 : Int) (f2_1 : List (List Int × Int)) : St := stOf [(1, .c (.sn 3 (.int .i64) values1 none)), (2, .c (.box 2 0)), (5, .c (.int .i64 sum5)), (6, .c (.int .i64 i6))] [(2, (25, [.int .i64 f2_0, .sn 59 (.pair (.sl 3 (.int .i64)) (.int .i64)) f2_1 none]))] []
noncomputable def f46l3 : Clean := ⟨[1, 2, 5, 6], [2], [], [], []⟩
noncomputable def f46s4 (values1 : List Int) (sum5 : Int) (k7 : Int) (f2_0 : Int) (f2_1 : List (List Int × Int)) : St := stOf [(1, .c (.sn 3 (.int .i64) values1 none)), (2, .c (.box 2 0)), (5, .c (.int .i64 sum5)), (7, .c (.int .i64 k7))] [(2, (25, [.int .i64 f2_0, .sn 59 (.pair (.sl 3 (.int .i64)) (.int .i64)) f2_1 none]))] []
noncomputable def f46l4 : Clean := ⟨[1, 2, 5, 7], [2], [], [], []⟩
noncomputable def f46s5 (values1 : List Int) (sum5 : Int) (k7 : Int) (x8 : Int) (f2_0 : Int) (f2_1 : List (List Int × Int)) : St := stOf [(1, .c (.sn 3 (.int .i64) values1 none)), (2, .c (.box 2 0)), (5, .c (.int .i64 sum5)), (7, .c (.int .i64 k7)), (8, .c (.int .i64 x8))] [(2, (25, [.int .i64 f2_0, .sn 59 (.pair (.sl 3 (.int .i64)) (.int .i64)) f2_1 none]))] []
noncomputable def f46l5 : Clean := ⟨[1, 2, 5, 7, 8], [2], [], [], []⟩
noncomputable def f46s6 (values1 : List Int) (sum5 : Int) (k7 : Int) (x8 : Int) (i9 : Int) (f2_0 : Int) (f2_1 : List (List Int × Int)) : St := stOf [(1, .c (.sn 3 (.int .i64) values1 none)), (2, .c (.box 2 0)), (5, .c (.int .i64 sum5)), (7, .c (.int .i64 k7)), (8, .c (.int .i64 x8)), (9, .c (.int .i64 i9))] [(2, (25, [.int .i64 f2_0, .sn 59 (.pair (.sl 3 (.int .i64)) (.int .i64)) f2_1 none]))] []
noncomputable def f46l6 : Clean := ⟨[1, 2, 5, 7, 8, 9], [2], [], [], []⟩
noncomputable def f46s7 (sum5 : Int) : St := stOf [(5, .c (.int .i64 sum5))] [] []
noncomputable def f46l7 : Clean := ⟨[5], [], [], [], []⟩
noncomputable def f46s8 (t4 : Int) : St := stOf [(4, .c (.int .i64 t4))] [] []
noncomputable def f46l8 : Clean := ⟨[4], [], [], [], []⟩
noncomputable def f46B : Nat → Option Clean := lookL [(0, f46l2), (4, f46l5), (3, f46l4), (2, f46l7), (1000000, f46l8)]
noncomputable abbrev f46i {ρ : Type} (N : Nat) (c : Code) (p : Plan) (σ : St) (K : KT ρ) : Option ρ := iCode f46G tab f46B N c p σ K
noncomputable def f46c1 := codeAt (bodyOf Try.f46) [0]
theorem f46t1 {ρ : Type} (N : Nat) (f0 : Int × List (List Int × Int)) (values1 : List Int) (K : KT ρ) : f46i N f46c1 .n (f46s0 f0 values1) (joinK (some f46l1) K) =
  spec_EvaluateLaurent.Z1 N f0 values1 (fun values1 f2_0 f2_1 => K .nrm (f46s1 values1 f2_0 f2_1)) := by kernel_rfl
noncomputable def f46c3 := codeAt (bodyOf Try.f46) [1,0]
theorem f46t3 {ρ : Type} (N : Nat) (values1 : List Int) (f2_0 : Int) (f2_1 : List (List Int × Int)) (K : KT ρ) : f46i N f46c3 .n (f46s1 values1 f2_0 f2_1) (joinK (some f46l1) K) =
  spec_EvaluateLaurent.Z3 N values1 f2_0 f2_1 (fun values1 f2_0 f2_1 => K .nrm (f46s1 values1 f2_0 f2_1)) (fun t4 => K .ret (f46s8 t4)) := by kernel_rfl
noncomputable def f46c5 := codeAt (bodyOf Try.f46) [1,1,0]
theorem f46t5 {ρ : Type} (N : Nat) (values1 : List Int) (f2_0 : Int) (f2_1 : List (List Int × Int)) (K : KT ρ) : f46i N f46c5 .n (f46s1 values1 f2_0 f2_1) (joinK (some f46l2) K) =
  spec_EvaluateLaurent.Z5 N values1 f2_0 f2_1 (fun values1 sum5 f2_0 f2_1 => K .nrm (f46s2 values1 sum5 f2_0 f2_1)) := by kernel_rfl
noncomputable def f46c8 := codeAt (bodyOf Try.f46) [1,1,1,0,0]
theorem f46t8 {ρ : Type} (N : Nat) (values1 : List Int) (sum5 : Int) (f2_0 : Int) (f2_1 : List (List Int × Int)) (K : KT ρ) : f46i N f46c8 .n (f46s2 values1 sum5 f2_0 f2_1) (joinK (some f46l3) K) =
  spec_EvaluateLaurent.Z8 N values1 sum5 f2_0 f2_1 (fun values1 sum5 i6 f2_0 f2_1 => K .nrm (f46s3 values1 sum5 i6 f2_0 f2_1)) := by kernel_rfl
noncomputable def f46c11 := codeAt (bodyOf Try.f46) [1,1,1,0,1,0,0]
theorem f46t11 {ρ : Type} (N : Nat) (values1 : List Int) (sum5 : Int) (i6 : Int) (f2_0 : Int) (f2_1 : List (List Int × Int)) (K : KT ρ) : f46i N f46c11 .n (f46s3 values1 sum5 i6 f2_0 f2_1) (joinK (some f46l3) K) =
  spec_EvaluateLaurent.Z11 N values1 sum5 i6 f2_0 f2_1 (fun values1 sum5 i6 f2_0 f2_1 => K .nrm (f46s3 values1 sum5 i6 f2_0 f2_1)) (fun values1 sum5 f2_0 f2_1 => K (.exit 0) (f46s2 values1 sum5 f2_0 f2_1)) (fun t4 => K .ret (f46s8 t4)) := by kernel_rfl
noncomputable def f46c10 := codeAt (bodyOf Try.f46) [1,1,1,0,1,0]
noncomputable def f46p10 : Plan := .mk none (some f46l3) .n .n
noncomputable abbrev f46w10 {ρ : Type} (N : Nat) (M : Nat) (σ : St) (K : KT ρ) : Option ρ := loopC (fun σ K => f46i N f46c11 .n σ K) f46l3 M σ K
theorem f46t10L {ρ : Type} (N : Nat) (K : KT ρ) : ∀ (M : Nat) (values1 : List Int) (sum5 : Int) (i6 : Int) (f2_0 : Int) (f2_1 : List (List Int × Int)), f46w10 N M (f46s3 values1 sum5 i6 f2_0 f2_1) K =
  spec_EvaluateLaurent.Z10L N (fun values1 sum5 f2_0 f2_1 => K (.exit 0) (f46s2 values1 sum5 f2_0 f2_1)) (fun t4 => K .ret (f46s8 t4)) M values1 sum5 i6 f2_0 f2_1
  | 0, _, _, _, _, _ => rfl
  | M + 1, values1, sum5, i6, f2_0, f2_1 => viaRound (fun k => spec_EvaluateLaurent.Z11 N values1 sum5 i6 f2_0 f2_1 k (fun values1 sum5 f2_0 f2_1 => K (.exit 0) (f46s2 values1 sum5 f2_0 f2_1)) (fun t4 => K .ret (f46s8 t4))) (f46t11 N values1 sum5 i6 f2_0 f2_1 (seqK (fun σ => f46w10 N M σ K) K)) (funext fun values1 => funext fun sum5 => funext fun i6 => funext fun f2_0 => funext fun f2_1 => f46t10L N K M values1 sum5 i6 f2_0 f2_1) (by kernel_rfl) (by kernel_rfl)
theorem f46t10 {ρ : Type} (N : Nat) (values1 : List Int) (sum5 : Int) (i6 : Int) (f2_0 : Int) (f2_1 : List (List Int × Int)) (K : KT ρ) : f46i N f46c10 f46p10 (f46s3 values1 sum5 i6 f2_0 f2_1) (joinK (some f46l2) K) =
  spec_EvaluateLaurent.Z10 N values1 sum5 i6 f2_0 f2_1 (fun values1 sum5 f2_0 f2_1 => K (.exit 0) (f46s2 values1 sum5 f2_0 f2_1)) (fun t4 => K .ret (f46s8 t4)) :=
  viaLoop (by kernel_rfl) (by kernel_rfl) (σ' := f46s3 values1 sum5 i6 f2_0 f2_1) (by kernel_rfl) (f46t10L N (joinK (some f46l2) K) N values1 sum5 i6 f2_0 f2_1) (by kernel_rfl)
noncomputable def f46c9 := codeAt (bodyOf Try.f46) [1,1,1,0,1]
noncomputable def f46p9 : Plan := .mk (some f46l2) none f46p10 .n
theorem f46t9 {ρ : Type} (N : Nat) (values1 : List Int) (sum5 : Int) (i6 : Int) (f2_0 : Int) (f2_1 : List (List Int × Int)) (K : KT ρ) : f46i N f46c9 f46p9 (f46s3 values1 sum5 i6 f2_0 f2_1) (joinK (some f46l2) K) =
  spec_EvaluateLaurent.Z9 N values1 sum5 i6 f2_0 f2_1 (fun values1 sum5 f2_0 f2_1 => K .nrm (f46s2 values1 sum5 f2_0 f2_1)) (fun t4 => K .ret (f46s8 t4)) :=
  viaBlock (by kernel_rfl) (by kernel_rfl) (f46t10 N values1 sum5 i6 f2_0 f2_1 (blockK 0 (joinK (some f46l2) K))) (by kernel_rfl)
noncomputable def f46c7 := codeAt (bodyOf Try.f46) [1,1,1,0]
noncomputable def f46p7 : Plan := .mk (some f46l3) none .n f46p9
theorem f46t7 {ρ : Type} (N : Nat) (values1 : List Int) (sum5 : Int) (f2_0 : Int) (f2_1 : List (List Int × Int)) (K : KT ρ) : f46i N f46c7 f46p7 (f46s2 values1 sum5 f2_0 f2_1) (joinK (some f46l2) K) =
  spec_EvaluateLaurent.Z7 N values1 sum5 f2_0 f2_1 (fun values1 sum5 f2_0 f2_1 => K .nrm (f46s2 values1 sum5 f2_0 f2_1)) (fun t4 => K .ret (f46s8 t4)) :=
  viaSeq (fun k => spec_EvaluateLaurent.Z8 N values1 sum5 f2_0 f2_1 k) (by kernel_rfl) (by kernel_rfl) (f46t8 N values1 sum5 f2_0 f2_1 (seqK (fun σ => f46i N f46c9 f46p9 σ (joinK (some f46l2) K)) (joinK (some f46l2) K))) (funext fun values1 => funext fun sum5 => funext fun i6 => funext fun f2_0 => funext fun f2_1 => f46t9 N values1 sum5 i6 f2_0 f2_1 K) (by kernel_rfl) (by kernel_rfl)
noncomputable def f46c14 := codeAt (bodyOf Try.f46) [1,1,1,1,0,0]
theorem f46t14 {ρ : Type} (N : Nat) (values1 : List Int) (sum5 : Int) (f2_0 : Int) (f2_1 : List (List Int × Int)) (K : KT ρ) : f46i N f46c14 .n (f46s2 values1 sum5 f2_0 f2_1) (joinK (some f46l4) K) =
  spec_EvaluateLaurent.Z14 N values1 sum5 f2_0 f2_1 (fun values1 sum5 k7 f2_0 f2_1 => K .nrm (f46s4 values1 sum5 k7 f2_0 f2_1)) := by kernel_rfl
noncomputable def f46c18 := codeAt (bodyOf Try.f46) [1,1,1,1,0,1,0,0,0]
theorem f46t18 {ρ : Type} (N : Nat) (values1 : List Int) (sum5 : Int) (k7 : Int) (f2_0 : Int) (f2_1 : List (List Int × Int)) (K : KT ρ) : f46i N f46c18 .n (f46s4 values1 sum5 k7 f2_0 f2_1) (joinK (some f46l4) K) =
  spec_EvaluateLaurent.Z18 N values1 sum5 k7 f2_0 f2_1 (fun values1 sum5 k7 f2_0 f2_1 => K .nrm (f46s4 values1 sum5 k7 f2_0 f2_1)) (fun sum5 => K (.exit 2) (f46s7 sum5)) := by kernel_rfl
noncomputable def f46c22 := codeAt (bodyOf Try.f46) [1,1,1,1,0,1,0,0,1,0,0,0]
theorem f46t22 {ρ : Type} (N : Nat) (values1 : List Int) (sum5 : Int) (k7 : Int) (f2_0 : Int) (f2_1 : List (List Int × Int)) (K : KT ρ) : f46i N f46c22 .n (f46s4 values1 sum5 k7 f2_0 f2_1) (joinK (some f46l5) K) =
  spec_EvaluateLaurent.Z22 N values1 sum5 k7 f2_0 f2_1 (fun values1 sum5 k7 x8 f2_0 f2_1 => K .nrm (f46s5 values1 sum5 k7 x8 f2_0 f2_1)) := by kernel_rfl
noncomputable def f46c25 := codeAt (bodyOf Try.f46) [1,1,1,1,0,1,0,0,1,0,0,1,0,0]
theorem f46t25 {ρ : Type} (N : Nat) (values1 : List Int) (sum5 : Int) (k7 : Int) (x8 : Int) (f2_0 : Int) (f2_1 : List (List Int × Int)) (K : KT ρ) : f46i N f46c25 .n (f46s5 values1 sum5 k7 x8 f2_0 f2_1) (joinK (some f46l6) K) =
  spec_EvaluateLaurent.Z25 N values1 sum5 k7 x8 f2_0 f2_1 (fun values1 sum5 k7 x8 i9 f2_0 f2_1 => K .nrm (f46s6 values1 sum5 k7 x8 i9 f2_0 f2_1)) := by kernel_rfl
noncomputable def f46c28 := codeAt (bodyOf Try.f46) [1,1,1,1,0,1,0,0,1,0,0,1,0,1,0,0]
theorem f46t28 {ρ : Type} (N : Nat) (values1 : List Int) (sum5 : Int) (k7 : Int) (x8 : Int) (i9 : Int) (f2_0 : Int) (f2_1 : List (List Int × Int)) (K : KT ρ) : f46i N f46c28 .n (f46s6 values1 sum5 k7 x8 i9 f2_0 f2_1) (joinK (some f46l6) K) =
  spec_EvaluateLaurent.Z28 N values1 sum5 k7 x8 i9 f2_0 f2_1 (fun values1 sum5 k7 x8 i9 f2_0 f2_1 => K .nrm (f46s6 values1 sum5 k7 x8 i9 f2_0 f2_1)) (fun values1 sum5 k7 x8 f2_0 f2_1 => K (.exit 4) (f46s5 values1 sum5 k7 x8 f2_0 f2_1)) := by kernel_rfl
noncomputable def f46c27 := codeAt (bodyOf Try.f46) [1,1,1,1,0,1,0,0,1,0,0,1,0,1,0]
noncomputable def f46p27 : Plan := .mk none (some f46l6) .n .n
noncomputable abbrev f46w27 {ρ : Type} (N : Nat) (M : Nat) (σ : St) (K : KT ρ) : Option ρ := loopC (fun σ K => f46i N f46c28 .n σ K) f46l6 M σ K
theorem f46t27L {ρ : Type} (N : Nat) (K : KT ρ) : ∀ (M : Nat) (values1 : List Int) (sum5 : Int) (k7 : Int) (x8 : Int) (i9 : Int) (f2_0 : Int) (f2_1 : List (List Int × Int)), f46w27 N M (f46s6 values1 sum5 k7 x8 i9 f2_0 f2_1) K =
  spec_EvaluateLaurent.Z27L N (fun values1 sum5 k7 x8 f2_0 f2_1 => K (.exit 4) (f46s5 values1 sum5 k7 x8 f2_0 f2_1)) M values1 sum5 k7 x8 i9 f2_0 f2_1
  | 0, _, _, _, _, _, _, _ => rfl
  | M + 1, values1, sum5, k7, x8, i9, f2_0, f2_1 => viaRound (fun k => spec_EvaluateLaurent.Z28 N values1 sum5 k7 x8 i9 f2_0 f2_1 k (fun values1 sum5 k7 x8 f2_0 f2_1 => K (.exit 4) (f46s5 values1 sum5 k7 x8 f2_0 f2_1))) (f46t28 N values1 sum5 k7 x8 i9 f2_0 f2_1 (seqK (fun σ => f46w27 N M σ K) K)) (funext fun values1 => funext fun sum5 => funext fun k7 => funext fun x8 => funext fun i9 => funext fun f2_0 => funext fun f2_1 => f46t27L N K M values1 sum5 k7 x8 i9 f2_0 f2_1) (by kernel_rfl) (by kernel_rfl)
theorem f46t27 {ρ : Type} (N : Nat) (values1 : List Int) (sum5 : Int) (k7 : Int) (x8 : Int) (i9 : Int) (f2_0 : Int) (f2_1 : List (List Int × Int)) (K : KT ρ) : f46i N f46c27 f46p27 (f46s6 values1 sum5 k7 x8 i9 f2_0 f2_1) (joinK (some f46l5) K) =
  spec_EvaluateLaurent.Z27 N values1 sum5 k7 x8 i9 f2_0 f2_1 (fun values1 sum5 k7 x8 f2_0 f2_1 => K (.exit 4) (f46s5 values1 sum5 k7 x8 f2_0 f2_1)) :=
  viaLoop (by kernel_rfl) (by kernel_rfl) (σ' := f46s6 values1 sum5 k7 x8 i9 f2_0 f2_1) (by kernel_rfl) (f46t27L N (joinK (some f46l5) K) N values1 sum5 k7 x8 i9 f2_0 f2_1) (by kernel_rfl)
noncomputable def f46c26 := codeAt (bodyOf Try.f46) [1,1,1,1,0,1,0,0,1,0,0,1,0,1]
noncomputable def f46p26 : Plan := .mk (some f46l5) none f46p27 .n
theorem f46t26 {ρ : Type} (N : Nat) (values1 : List Int) (sum5 : Int) (k7 : Int) (x8 : Int) (i9 : Int) (f2_0 : Int) (f2_1 : List (List Int × Int)) (K : KT ρ) : f46i N f46c26 f46p26 (f46s6 values1 sum5 k7 x8 i9 f2_0 f2_1) (joinK (some f46l5) K) =
  spec_EvaluateLaurent.Z26 N values1 sum5 k7 x8 i9 f2_0 f2_1 (fun values1 sum5 k7 x8 f2_0 f2_1 => K .nrm (f46s5 values1 sum5 k7 x8 f2_0 f2_1)) :=
  viaBlock (by kernel_rfl) (by kernel_rfl) (f46t27 N values1 sum5 k7 x8 i9 f2_0 f2_1 (blockK 4 (joinK (some f46l5) K))) (by kernel_rfl)
noncomputable def f46c24 := codeAt (bodyOf Try.f46) [1,1,1,1,0,1,0,0,1,0,0,1,0]
noncomputable def f46p24 : Plan := .mk (some f46l6) none .n f46p26
theorem f46t24 {ρ : Type} (N : Nat) (values1 : List Int) (sum5 : Int) (k7 : Int) (x8 : Int) (f2_0 : Int) (f2_1 : List (List Int × Int)) (K : KT ρ) : f46i N f46c24 f46p24 (f46s5 values1 sum5 k7 x8 f2_0 f2_1) (joinK (some f46l5) K) =
  spec_EvaluateLaurent.Z24 N values1 sum5 k7 x8 f2_0 f2_1 (fun values1 sum5 k7 x8 f2_0 f2_1 => K .nrm (f46s5 values1 sum5 k7 x8 f2_0 f2_1)) :=
  viaSeq (fun k => spec_EvaluateLaurent.Z25 N values1 sum5 k7 x8 f2_0 f2_1 k) (by kernel_rfl) (by kernel_rfl) (f46t25 N values1 sum5 k7 x8 f2_0 f2_1 (seqK (fun σ => f46i N f46c26 f46p26 σ (joinK (some f46l5) K)) (joinK (some f46l5) K))) (funext fun values1 => funext fun sum5 => funext fun k7 => funext fun x8 => funext fun i9 => funext fun f2_0 => funext fun f2_1 => f46t26 N values1 sum5 k7 x8 i9 f2_0 f2_1 K) (by kernel_rfl) (by kernel_rfl)
noncomputable def f46c29 := codeAt (bodyOf Try.f46) [1,1,1,1,0,1,0,0,1,0,0,1,1]
theorem f46t29 {ρ : Type} (N : Nat) (values1 : List Int) (sum5 : Int) (k7 : Int) (x8 : Int) (f2_0 : Int) (f2_1 : List (List Int × Int)) (K : KT ρ) : f46i N f46c29 .n (f46s5 values1 sum5 k7 x8 f2_0 f2_1) (joinK (some f46l4) K) =
  spec_EvaluateLaurent.Z29 N values1 sum5 k7 x8 f2_0 f2_1 (fun values1 sum5 k7 f2_0 f2_1 => K .nrm (f46s4 values1 sum5 k7 f2_0 f2_1)) := by kernel_rfl
noncomputable def f46c23 := codeAt (bodyOf Try.f46) [1,1,1,1,0,1,0,0,1,0,0,1]
noncomputable def f46p23 : Plan := .mk (some f46l5) none f46p24 .n
theorem f46t23 {ρ : Type} (N : Nat) (values1 : List Int) (sum5 : Int) (k7 : Int) (x8 : Int) (f2_0 : Int) (f2_1 : List (List Int × Int)) (K : KT ρ) : f46i N f46c23 f46p23 (f46s5 values1 sum5 k7 x8 f2_0 f2_1) (joinK (some f46l4) K) =
  spec_EvaluateLaurent.Z23 N values1 sum5 k7 x8 f2_0 f2_1 (fun values1 sum5 k7 f2_0 f2_1 => K .nrm (f46s4 values1 sum5 k7 f2_0 f2_1)) :=
  viaSeq (fun k => spec_EvaluateLaurent.Z24 N values1 sum5 k7 x8 f2_0 f2_1 k) (by kernel_rfl) (by kernel_rfl) (f46t24 N values1 sum5 k7 x8 f2_0 f2_1 (seqK (fun σ => f46i N f46c29 .n σ (joinK (some f46l4) K)) (joinK (some f46l4) K))) (funext fun values1 => funext fun sum5 => funext fun k7 => funext fun x8 => funext fun f2_0 => funext fun f2_1 => f46t29 N values1 sum5 k7 x8 f2_0 f2_1 K) (by kernel_rfl) (by kernel_rfl)
noncomputable def f46c21 := codeAt (bodyOf Try.f46) [1,1,1,1,0,1,0,0,1,0,0]
noncomputable def f46p21 : Plan := .mk (some f46l5) none .n f46p23
theorem f46t21 {ρ : Type} (N : Nat) (values1 : List Int) (sum5 : Int) (k7 : Int) (f2_0 : Int) (f2_1 : List (List Int × Int)) (K : KT ρ) : f46i N f46c21 f46p21 (f46s4 values1 sum5 k7 f2_0 f2_1) (joinK (some f46l4) K) =
  spec_EvaluateLaurent.Z21 N values1 sum5 k7 f2_0 f2_1 (fun values1 sum5 k7 f2_0 f2_1 => K .nrm (f46s4 values1 sum5 k7 f2_0 f2_1)) :=
  viaSeq (fun k => spec_EvaluateLaurent.Z22 N values1 sum5 k7 f2_0 f2_1 k) (by kernel_rfl) (by kernel_rfl) (f46t22 N values1 sum5 k7 f2_0 f2_1 (seqK (fun σ => f46i N f46c23 f46p23 σ (joinK (some f46l4) K)) (joinK (some f46l4) K))) (funext fun values1 => funext fun sum5 => funext fun k7 => funext fun x8 => funext fun f2_0 => funext fun f2_1 => f46t23 N values1 sum5 k7 x8 f2_0 f2_1 K) (by kernel_rfl) (by kernel_rfl)
noncomputable def f46c20 := codeAt (bodyOf Try.f46) [1,1,1,1,0,1,0,0,1,0]
noncomputable def f46p20 : Plan := .mk (some f46l4) none f46p21 .n
theorem f46t20 {ρ : Type} (N : Nat) (values1 : List Int) (sum5 : Int) (k7 : Int) (f2_0 : Int) (f2_1 : List (List Int × Int)) (K : KT ρ) : f46i N f46c20 f46p20 (f46s4 values1 sum5 k7 f2_0 f2_1) (joinK (some f46l4) K) =
  spec_EvaluateLaurent.Z20 N values1 sum5 k7 f2_0 f2_1 (fun values1 sum5 k7 f2_0 f2_1 => K .nrm (f46s4 values1 sum5 k7 f2_0 f2_1)) :=
  viaBlock (by kernel_rfl) (by kernel_rfl) (f46t21 N values1 sum5 k7 f2_0 f2_1 (blockK 3 (joinK (some f46l4) K))) (by kernel_rfl)
noncomputable def f46c30 := codeAt (bodyOf Try.f46) [1,1,1,1,0,1,0,0,1,1]
theorem f46t30 {ρ : Type} (N : Nat) (values1 : List Int) (sum5 : Int) (k7 : Int) (f2_0 : Int) (f2_1 : List (List Int × Int)) (K : KT ρ) : f46i N f46c30 .n (f46s4 values1 sum5 k7 f2_0 f2_1) (joinK (some f46l4) K) =
  spec_EvaluateLaurent.Z30 N values1 sum5 k7 f2_0 f2_1 (fun values1 sum5 k7 f2_0 f2_1 => K .nrm (f46s4 values1 sum5 k7 f2_0 f2_1)) := by kernel_rfl
noncomputable def f46c19 := codeAt (bodyOf Try.f46) [1,1,1,1,0,1,0,0,1]
noncomputable def f46p19 : Plan := .mk (some f46l4) none f46p20 .n
theorem f46t19 {ρ : Type} (N : Nat) (values1 : List Int) (sum5 : Int) (k7 : Int) (f2_0 : Int) (f2_1 : List (List Int × Int)) (K : KT ρ) : f46i N f46c19 f46p19 (f46s4 values1 sum5 k7 f2_0 f2_1) (joinK (some f46l4) K) =
  spec_EvaluateLaurent.Z19 N values1 sum5 k7 f2_0 f2_1 (fun values1 sum5 k7 f2_0 f2_1 => K .nrm (f46s4 values1 sum5 k7 f2_0 f2_1)) :=
  viaSeq (fun k => spec_EvaluateLaurent.Z20 N values1 sum5 k7 f2_0 f2_1 k) (by kernel_rfl) (by kernel_rfl) (f46t20 N values1 sum5 k7 f2_0 f2_1 (seqK (fun σ => f46i N f46c30 .n σ (joinK (some f46l4) K)) (joinK (some f46l4) K))) (funext fun values1 => funext fun sum5 => funext fun k7 => funext fun f2_0 => funext fun f2_1 => f46t30 N values1 sum5 k7 f2_0 f2_1 K) (by kernel_rfl) (by kernel_rfl)
noncomputable def f46c17 := codeAt (bodyOf Try.f46) [1,1,1,1,0,1,0,0]
noncomputable def f46p17 : Plan := .mk (some f46l4) none .n f46p19
theorem f46t17 {ρ : Type} (N : Nat) (values1 : List Int) (sum5 : Int) (k7 : Int) (f2_0 : Int) (f2_1 : List (List Int × Int)) (K : KT ρ) : f46i N f46c17 f46p17 (f46s4 values1 sum5 k7 f2_0 f2_1) (joinK (some f46l4) K) =
  spec_EvaluateLaurent.Z17 N values1 sum5 k7 f2_0 f2_1 (fun values1 sum5 k7 f2_0 f2_1 => K .nrm (f46s4 values1 sum5 k7 f2_0 f2_1)) (fun sum5 => K (.exit 2) (f46s7 sum5)) :=
  viaSeq (fun k => spec_EvaluateLaurent.Z18 N values1 sum5 k7 f2_0 f2_1 k (fun sum5 => K (.exit 2) (f46s7 sum5))) (by kernel_rfl) (by kernel_rfl) (f46t18 N values1 sum5 k7 f2_0 f2_1 (seqK (fun σ => f46i N f46c19 f46p19 σ (joinK (some f46l4) K)) (joinK (some f46l4) K))) (funext fun values1 => funext fun sum5 => funext fun k7 => funext fun f2_0 => funext fun f2_1 => f46t19 N values1 sum5 k7 f2_0 f2_1 K) (by kernel_rfl) (by kernel_rfl)
noncomputable def f46c16 := codeAt (bodyOf Try.f46) [1,1,1,1,0,1,0]
noncomputable def f46p16 : Plan := .mk none (some f46l4) f46p17 .n
noncomputable abbrev f46w16 {ρ : Type} (N : Nat) (M : Nat) (σ : St) (K : KT ρ) : Option ρ := loopC (fun σ K => f46i N f46c17 f46p17 σ K) f46l4 M σ K
theorem f46t16L {ρ : Type} (N : Nat) (K : KT ρ) : ∀ (M : Nat) (values1 : List Int) (sum5 : Int) (k7 : Int) (f2_0 : Int) (f2_1 : List (List Int × Int)), f46w16 N M (f46s4 values1 sum5 k7 f2_0 f2_1) K =
  spec_EvaluateLaurent.Z16L N (fun sum5 => K (.exit 2) (f46s7 sum5)) M values1 sum5 k7 f2_0 f2_1
  | 0, _, _, _, _, _ => rfl
  | M + 1, values1, sum5, k7, f2_0, f2_1 => viaRound (fun k => spec_EvaluateLaurent.Z17 N values1 sum5 k7 f2_0 f2_1 k (fun sum5 => K (.exit 2) (f46s7 sum5))) (f46t17 N values1 sum5 k7 f2_0 f2_1 (seqK (fun σ => f46w16 N M σ K) K)) (funext fun values1 => funext fun sum5 => funext fun k7 => funext fun f2_0 => funext fun f2_1 => f46t16L N K M values1 sum5 k7 f2_0 f2_1) (by kernel_rfl) (by kernel_rfl)
theorem f46t16 {ρ : Type} (N : Nat) (values1 : List Int) (sum5 : Int) (k7 : Int) (f2_0 : Int) (f2_1 : List (List Int × Int)) (K : KT ρ) : f46i N f46c16 f46p16 (f46s4 values1 sum5 k7 f2_0 f2_1) (joinK (some f46l7) K) =
  spec_EvaluateLaurent.Z16 N values1 sum5 k7 f2_0 f2_1 (fun sum5 => K (.exit 2) (f46s7 sum5)) :=
  viaLoop (by kernel_rfl) (by kernel_rfl) (σ' := f46s4 values1 sum5 k7 f2_0 f2_1) (by kernel_rfl) (f46t16L N (joinK (some f46l7) K) N values1 sum5 k7 f2_0 f2_1) (by kernel_rfl)
noncomputable def f46c15 := codeAt (bodyOf Try.f46) [1,1,1,1,0,1]
noncomputable def f46p15 : Plan := .mk (some f46l7) none f46p16 .n
theorem f46t15 {ρ : Type} (N : Nat) (values1 : List Int) (sum5 : Int) (k7 : Int) (f2_0 : Int) (f2_1 : List (List Int × Int)) (K : KT ρ) : f46i N f46c15 f46p15 (f46s4 values1 sum5 k7 f2_0 f2_1) (joinK (some f46l7) K) =
  spec_EvaluateLaurent.Z15 N values1 sum5 k7 f2_0 f2_1 (fun sum5 => K .nrm (f46s7 sum5)) :=
  viaBlock (by kernel_rfl) (by kernel_rfl) (f46t16 N values1 sum5 k7 f2_0 f2_1 (blockK 2 (joinK (some f46l7) K))) (by kernel_rfl)
noncomputable def f46c13 := codeAt (bodyOf Try.f46) [1,1,1,1,0]
noncomputable def f46p13 : Plan := .mk (some f46l4) none .n f46p15
theorem f46t13 {ρ : Type} (N : Nat) (values1 : List Int) (sum5 : Int) (f2_0 : Int) (f2_1 : List (List Int × Int)) (K : KT ρ) : f46i N f46c13 f46p13 (f46s2 values1 sum5 f2_0 f2_1) (joinK (some f46l7) K) =
  spec_EvaluateLaurent.Z13 N values1 sum5 f2_0 f2_1 (fun sum5 => K .nrm (f46s7 sum5)) :=
  viaSeq (fun k => spec_EvaluateLaurent.Z14 N values1 sum5 f2_0 f2_1 k) (by kernel_rfl) (by kernel_rfl) (f46t14 N values1 sum5 f2_0 f2_1 (seqK (fun σ => f46i N f46c15 f46p15 σ (joinK (some f46l7) K)) (joinK (some f46l7) K))) (funext fun values1 => funext fun sum5 => funext fun k7 => funext fun f2_0 => funext fun f2_1 => f46t15 N values1 sum5 k7 f2_0 f2_1 K) (by kernel_rfl) (by kernel_rfl)
noncomputable def f46c31 := codeAt (bodyOf Try.f46) [1,1,1,1,1]
theorem f46t31 {ρ : Type} (N : Nat) (sum5 : Int) (K : KT ρ) : f46i N f46c31 .n (f46s7 sum5) (joinK (some f46lE) K) =
  spec_EvaluateLaurent.Z31 N sum5 (fun t4 => K .ret (f46s8 t4)) := by kernel_rfl
noncomputable def f46c12 := codeAt (bodyOf Try.f46) [1,1,1,1]
noncomputable def f46p12 : Plan := .mk (some f46l7) none f46p13 .n
theorem f46t12 {ρ : Type} (N : Nat) (values1 : List Int) (sum5 : Int) (f2_0 : Int) (f2_1 : List (List Int × Int)) (K : KT ρ) : f46i N f46c12 f46p12 (f46s2 values1 sum5 f2_0 f2_1) (joinK (some f46lE) K) =
  spec_EvaluateLaurent.Z12 N values1 sum5 f2_0 f2_1 (fun t4 => K .ret (f46s8 t4)) :=
  viaSeq (fun k => spec_EvaluateLaurent.Z13 N values1 sum5 f2_0 f2_1 k) (by kernel_rfl) (by kernel_rfl) (f46t13 N values1 sum5 f2_0 f2_1 (seqK (fun σ => f46i N f46c31 .n σ (joinK (some f46lE) K)) (joinK (some f46lE) K))) (funext fun sum5 => f46t31 N sum5 K) (by kernel_rfl) (by kernel_rfl)
noncomputable def f46c6 := codeAt (bodyOf Try.f46) [1,1,1]
noncomputable def f46p6 : Plan := .mk (some f46l2) none f46p7 f46p12
theorem f46t6 {ρ : Type} (N : Nat) (values1 : List Int) (sum5 : Int) (f2_0 : Int) (f2_1 : List (List Int × Int)) (K : KT ρ) : f46i N f46c6 f46p6 (f46s2 values1 sum5 f2_0 f2_1) (joinK (some f46lE) K) =
  spec_EvaluateLaurent.Z6 N values1 sum5 f2_0 f2_1 (fun t4 => K .ret (f46s8 t4)) :=
  viaSeq (fun k => spec_EvaluateLaurent.Z7 N values1 sum5 f2_0 f2_1 k (fun t4 => K .ret (f46s8 t4))) (by kernel_rfl) (by kernel_rfl) (f46t7 N values1 sum5 f2_0 f2_1 (seqK (fun σ => f46i N f46c12 f46p12 σ (joinK (some f46lE) K)) (joinK (some f46lE) K))) (funext fun values1 => funext fun sum5 => funext fun f2_0 => funext fun f2_1 => f46t12 N values1 sum5 f2_0 f2_1 K) (by kernel_rfl) (by kernel_rfl)
noncomputable def f46c4 := codeAt (bodyOf Try.f46) [1,1]
noncomputable def f46p4 : Plan := .mk (some f46l2) none .n f46p6
theorem f46t4 {ρ : Type} (N : Nat) (values1 : List Int) (f2_0 : Int) (f2_1 : List (List Int × Int)) (K : KT ρ) : f46i N f46c4 f46p4 (f46s1 values1 f2_0 f2_1) (joinK (some f46lE) K) =
  spec_EvaluateLaurent.Z4 N values1 f2_0 f2_1 (fun t4 => K .ret (f46s8 t4)) :=
  viaSeq (fun k => spec_EvaluateLaurent.Z5 N values1 f2_0 f2_1 k) (by kernel_rfl) (by kernel_rfl) (f46t5 N values1 f2_0 f2_1 (seqK (fun σ => f46i N f46c6 f46p6 σ (joinK (some f46lE) K)) (joinK (some f46lE) K))) (funext fun values1 => funext fun sum5 => funext fun f2_0 => funext fun f2_1 => f46t6 N values1 sum5 f2_0 f2_1 K) (by kernel_rfl) (by kernel_rfl)
noncomputable def f46c2 := codeAt (bodyOf Try.f46) [1]
noncomputable def f46p2 : Plan := .mk (some f46l1) none .n f46p4
theorem f46t2 {ρ : Type} (N : Nat) (values1 : List Int) (f2_0 : Int) (f2_1 : List (List Int × Int)) (K : KT ρ) : f46i N f46c2 f46p2 (f46s1 values1 f2_0 f2_1) (joinK (some f46lE) K) =
  spec_EvaluateLaurent.Z2 N values1 f2_0 f2_1 (fun t4 => K .ret (f46s8 t4)) :=
  viaSeq (fun k => spec_EvaluateLaurent.Z3 N values1 f2_0 f2_1 k (fun t4 => K .ret (f46s8 t4))) (by kernel_rfl) (by kernel_rfl) (f46t3 N values1 f2_0 f2_1 (seqK (fun σ => f46i N f46c4 f46p4 σ (joinK (some f46lE) K)) (joinK (some f46lE) K))) (funext fun values1 => funext fun f2_0 => funext fun f2_1 => f46t4 N values1 f2_0 f2_1 K) (by kernel_rfl) (by kernel_rfl)
noncomputable def f46c0 := codeAt (bodyOf Try.f46) []
noncomputable def f46p0 : Plan := .mk (some f46l1) none .n f46p2
theorem f46t0 {ρ : Type} (N : Nat) (f0 : Int × List (List Int × Int)) (values1 : List Int) (K : KT ρ) : f46i N f46c0 f46p0 (f46s0 f0 values1) (joinK (some f46lE) K) =
  spec_EvaluateLaurent.Z0 N f0 values1 (fun t4 => K .ret (f46s8 t4)) :=
  viaSeq (fun k => spec_EvaluateLaurent.Z1 N f0 values1 k) (by kernel_rfl) (by kernel_rfl) (f46t1 N f0 values1 (seqK (fun σ => f46i N f46c2 f46p2 σ (joinK (some f46lE) K)) (joinK (some f46lE) K))) (funext fun values1 => funext fun f2_0 => funext fun f2_1 => f46t2 N values1 f2_0 f2_1 K) (by kernel_rfl) (by kernel_rfl)
theorem f46m (N : Nat) (f0 : Int × List (List Int × Int)) (values1 : List Int) : f46i N f46c0 f46p0 (f46s0 f0 values1) (joinK (some f46lE) (finK tab f46sig Try.f46.results.toList)) = spec_EvaluateLaurent.Z0 N f0 values1 (fun t4 => some ((), (t4, ()))) :=
  (f46t0 N f0 values1 (finK tab f46sig Try.f46.results.toList)).trans (by kernel_rfl)
theorem f46ok (h : spec_EvaluateLaurent.Spec) : EntryOk Try.prog 46 e46 :=
  entry_of_code (sig := f46sig) (c := f46c0) (pl := f46p0) (je := (some f46lE)) (B := f46B) Try.func46 (by kernel_rfl) (by kernel_rfl) (by kernel_rfl) tabOk f46GOk (by kernel_rfl) (by kernel_rfl) (by kernel_rfl) (by kernel_rfl) fun X hb hp => by
    obtain ⟨f0, values1, _⟩ := X
    obtain ⟨N, h⟩ := h f0 values1 hb.1 hb.2.1
    exact ⟨N, (f46m N f0 values1).trans (h N (Nat.le_refl N))⟩
theorem e46ok : EntryOk Try.prog 46 e46 := f46ok spec_EvaluateLaurent.ok
end Go.Fw
set_option linter.unusedVariables false
set_option linter.unusedSimpArgs false
set_option maxRecDepth 100000
namespace Go.Fw
open Go.Proofs
/-! ### loop.example/g03115/impl.within -/
noncomputable def f49sig : Sig := ⟨[⟨.int .i64, false, false⟩, ⟨.int .i64, false, false⟩, ⟨.int .i64, false, false⟩], [⟨.bool, false, false⟩]⟩
noncomputable def e49 : Entry := ⟨f49sig, none, fun X => ((), ((impl_within.g X.1 X.2.1 X.2.2.1), ()))⟩
noncomputable def f49G : Nat → Option Entry := (fun _ => none)
theorem f49GOk : GOk Try.prog f49G := GOk.nil
noncomputable def f49lE : Clean := ⟨[], [], [], [], []⟩
noncomputable def f49s0 (n0 : Int) (low1 : Int) (high2 : Int) : St := initSt f49sig.ps (n0, (low1, (high2, ())))
noncomputable def f49s1 (t6 : Bool) : St := stOf [(6, .c (.bool t6))] [] []
noncomputable def f49l1 : Clean := ⟨[6], [], [], [], []⟩
noncomputable def f49B : Nat → Option Clean := lookL [(1000000, f49l1)]
noncomputable abbrev f49i {ρ : Type} (N : Nat) (c : Code) (p : Plan) (σ : St) (K : KT ρ) : Option ρ := iCode f49G tab f49B N c p σ K
noncomputable def f49c0 := codeAt (bodyOf Try.f49) []
theorem f49t0 {ρ : Type} (N : Nat) (n0 : Int) (low1 : Int) (high2 : Int) (K : KT ρ) : f49i N f49c0 .n (f49s0 n0 low1 high2) (joinK (some f49lE) K) =
  impl_within.Z0 N n0 low1 high2 (fun t6 => K .ret (f49s1 t6)) := by kernel_rfl
theorem f49m (N : Nat) (n0 : Int) (low1 : Int) (high2 : Int) : f49i N f49c0 .n (f49s0 n0 low1 high2) (joinK (some f49lE) (finK tab f49sig Try.f49.results.toList)) = impl_within.Z0 N n0 low1 high2 (fun t6 => some ((), (t6, ()))) :=
  (f49t0 N n0 low1 high2 (finK tab f49sig Try.f49.results.toList)).trans (by kernel_rfl)
theorem f49ok (h : impl_within.Spec) : EntryOk Try.prog 49 e49 :=
  entry_of_code (sig := f49sig) (c := f49c0) (pl := .n) (je := (some f49lE)) (B := f49B) Try.func49 (by kernel_rfl) (by kernel_rfl) (by kernel_rfl) tabOk f49GOk (by kernel_rfl) (by kernel_rfl) (by kernel_rfl) (by kernel_rfl) fun X hb hp => by
    obtain ⟨n0, low1, high2, _⟩ := X
    obtain ⟨N, h⟩ := h n0 low1 high2
    exact ⟨N, (f49m N n0 low1 high2).trans (h N (Nat.le_refl N))⟩
theorem e49ok : EntryOk Try.prog 49 e49 := f49ok impl_within.ok
end Go.Fw
set_option linter.unusedVariables false
set_option linter.unusedSimpArgs false
set_option maxRecDepth 100000
namespace Go.Fw
open Go.Proofs
/-! ### loop.example/g03115/impl.expOk$1 -/
noncomputable def f80sig : Sig := ⟨[⟨.int .i64, false, false⟩], [⟨.bool, false, false⟩]⟩
noncomputable def e80 : Entry := ⟨f80sig, none, fun X => ((), ((impl_expOk_1.g X.1), ()))⟩
noncomputable def f80G : Nat → Option Entry := addG (fun _ => none) 49 e49
theorem f80GOk : GOk Try.prog f80G := (GOk.nil).add e49ok (by kernel_rfl)
noncomputable def f80lE : Clean := ⟨[], [], [], [], []⟩
noncomputable def f80s0 (e0 : Int) : St := initSt f80sig.ps (e0, ())
noncomputable def f80s1 (t2 : Bool) : St := stOf [(2, .c (.bool t2))] [] []
noncomputable def f80l1 : Clean := ⟨[2], [], [], [], []⟩
noncomputable def f80B : Nat → Option Clean := lookL [(1000000, f80l1)]
noncomputable abbrev f80i {ρ : Type} (N : Nat) (c : Code) (p : Plan) (σ : St) (K : KT ρ) : Option ρ := iCode f80G tab f80B N c p σ K
noncomputable def f80c0 := codeAt (bodyOf Try.f80) []
theorem f80t0 {ρ : Type} (N : Nat) (e0 : Int) (K : KT ρ) : f80i N f80c0 .n (f80s0 e0) (joinK (some f80lE) K) =
  impl_expOk_1.Z0 N e0 (fun t2 => K .ret (f80s1 t2)) := by kernel_rfl
theorem f80m (N : Nat) (e0 : Int) : f80i N f80c0 .n (f80s0 e0) (joinK (some f80lE) (finK tab f80sig Try.f80.results.toList)) = impl_expOk_1.Z0 N e0 (fun t2 => some ((), (t2, ()))) :=
  (f80t0 N e0 (finK tab f80sig Try.f80.results.toList)).trans (by kernel_rfl)
theorem f80ok (h : impl_expOk_1.Spec) : EntryOk Try.prog 80 e80 :=
  entry_of_code (sig := f80sig) (c := f80c0) (pl := .n) (je := (some f80lE)) (B := f80B) Try.func80 (by kernel_rfl) (by kernel_rfl) (by kernel_rfl) tabOk f80GOk (by kernel_rfl) (by kernel_rfl) (by kernel_rfl) (by kernel_rfl) fun X hb hp => by
    obtain ⟨e0, _⟩ := X
    obtain ⟨N, h⟩ := h e0
    exact ⟨N, (f80m N e0).trans (h N (Nat.le_refl N))⟩
theorem e80ok : EntryOk Try.prog 80 e80 := f80ok impl_expOk_1.ok
end Go.Fw
set_option linter.unusedVariables false
set_option linter.unusedSimpArgs false
set_option maxRecDepth 100000
namespace Go.Fw
open Go.Proofs
/-! ### slices.IndexFunc[[]int,int] -/
noncomputable def f90sig : Sig := ⟨[⟨.sl 3 (.int .i64), false, false⟩, ⟨.fnc 80, false, false⟩], [⟨.int .i64, false, false⟩]⟩
noncomputable def e90 : Entry := ⟨f90sig, none, fun X => ((), ((slices_IndexFunc_int_int_expOk.g X.1 X.2.1), ()))⟩
noncomputable def f90G : Nat → Option Entry := addG (fun _ => none) 80 e80
theorem f90GOk : GOk Try.prog f90G := (GOk.nil).add e80ok (by kernel_rfl)
noncomputable def f90lE : Clean := ⟨[], [], [], [], []⟩
noncomputable def f90s0 (s0 : List Int) (f1 : Unit) : St := initSt f90sig.ps (s0, (f1, ()))
noncomputable def f90s1 (s0 : List Int) : St := stOf [(0, .c (.sn 3 (.int .i64) s0 none)), (1, .c (.fn 80 []))] [] []
noncomputable def f90l1 : Clean := ⟨[0, 1], [], [], [], []⟩
noncomputable def f90s2 (s0 : List Int) (t7 : Int) (t8 : Int) : St := stOf [(0, .c (.sn 3 (.int .i64) s0 none)), (1, .c (.fn 80 [])), (7, .c (.int .i64 t7)), (8, .c (.int .i64 t8))] [] []
noncomputable def f90l2 : Clean := ⟨[0, 1, 7, 8], [], [], [], []⟩
noncomputable def f90s3  : St := stOf [] [] []
noncomputable def f90l3 : Clean := ⟨[], [], [], [], []⟩
noncomputable def f90s4 (t4 : Int) : St := stOf [(4, .c (.int .i64 t4))] [] []
noncomputable def f90l4 : Clean := ⟨[4], [], [], [], []⟩
noncomputable def f90B : Nat → Option Clean := lookL [(0, f90l3), (1000000, f90l4)]
noncomputable abbrev f90i {ρ : Type} (N : Nat) (c : Code) (p : Plan) (σ : St) (K : KT ρ) : Option ρ := iCode f90G tab f90B N c p σ K
noncomputable def f90c1 := codeAt (bodyOf Try.f90) [0]
theorem f90t1 {ρ : Type} (N : Nat) (s0 : List Int) (f1 : Unit) (K : KT ρ) : f90i N f90c1 .n (f90s0 s0 f1) (joinK (some f90l1) K) =
  slices_IndexFunc_int_int_expOk.Z1 N s0 f1 (fun s0 => K .nrm (f90s1 s0)) := by kernel_rfl
noncomputable def f90c4 := codeAt (bodyOf Try.f90) [1,0,0]
theorem f90t4 {ρ : Type} (N : Nat) (s0 : List Int) (K : KT ρ) : f90i N f90c4 .n (f90s1 s0) (joinK (some f90l2) K) =
  slices_IndexFunc_int_int_expOk.Z4 N s0 (fun s0 t7 t8 => K .nrm (f90s2 s0 t7 t8)) := by kernel_rfl
noncomputable def f90c7 := codeAt (bodyOf Try.f90) [1,0,1,0,0]
theorem f90t7 {ρ : Type} (N : Nat) (s0 : List Int) (t7 : Int) (t8 : Int) (K : KT ρ) : f90i N f90c7 .n (f90s2 s0 t7 t8) (joinK (some f90l2) K) =
  slices_IndexFunc_int_int_expOk.Z7 N s0 t7 t8 (fun s0 t7 t8 => K .nrm (f90s2 s0 t7 t8)) (K (.exit 0) f90s3) (fun t4 => K .ret (f90s4 t4)) := by kernel_rfl
noncomputable def f90c6 := codeAt (bodyOf Try.f90) [1,0,1,0]
noncomputable def f90p6 : Plan := .mk none (some f90l2) .n .n
noncomputable abbrev f90w6 {ρ : Type} (N : Nat) (M : Nat) (σ : St) (K : KT ρ) : Option ρ := loopC (fun σ K => f90i N f90c7 .n σ K) f90l2 M σ K
theorem f90t6L {ρ : Type} (N : Nat) (K : KT ρ) : ∀ (M : Nat) (s0 : List Int) (t7 : Int) (t8 : Int), f90w6 N M (f90s2 s0 t7 t8) K =
  slices_IndexFunc_int_int_expOk.Z6L N (K (.exit 0) f90s3) (fun t4 => K .ret (f90s4 t4)) M s0 t7 t8
  | 0, _, _, _ => rfl
  | M + 1, s0, t7, t8 => viaRound (fun k => slices_IndexFunc_int_int_expOk.Z7 N s0 t7 t8 k (K (.exit 0) f90s3) (fun t4 => K .ret (f90s4 t4))) (f90t7 N s0 t7 t8 (seqK (fun σ => f90w6 N M σ K) K)) (funext fun s0 => funext fun t7 => funext fun t8 => f90t6L N K M s0 t7 t8) (by kernel_rfl) (by kernel_rfl)
theorem f90t6 {ρ : Type} (N : Nat) (s0 : List Int) (t7 : Int) (t8 : Int) (K : KT ρ) : f90i N f90c6 f90p6 (f90s2 s0 t7 t8) (joinK (some f90l3) K) =
  slices_IndexFunc_int_int_expOk.Z6 N s0 t7 t8 (K (.exit 0) f90s3) (fun t4 => K .ret (f90s4 t4)) :=
  viaLoop (by kernel_rfl) (by kernel_rfl) (σ' := f90s2 s0 t7 t8) (by kernel_rfl) (f90t6L N (joinK (some f90l3) K) N s0 t7 t8) (by kernel_rfl)
noncomputable def f90c5 := codeAt (bodyOf Try.f90) [1,0,1]
noncomputable def f90p5 : Plan := .mk (some f90l3) none f90p6 .n
theorem f90t5 {ρ : Type} (N : Nat) (s0 : List Int) (t7 : Int) (t8 : Int) (K : KT ρ) : f90i N f90c5 f90p5 (f90s2 s0 t7 t8) (joinK (some f90l3) K) =
  slices_IndexFunc_int_int_expOk.Z5 N s0 t7 t8 (K .nrm f90s3) (fun t4 => K .ret (f90s4 t4)) :=
  viaBlock (by kernel_rfl) (by kernel_rfl) (f90t6 N s0 t7 t8 (blockK 0 (joinK (some f90l3) K))) (by kernel_rfl)
noncomputable def f90c3 := codeAt (bodyOf Try.f90) [1,0]
noncomputable def f90p3 : Plan := .mk (some f90l2) none .n f90p5
theorem f90t3 {ρ : Type} (N : Nat) (s0 : List Int) (K : KT ρ) : f90i N f90c3 f90p3 (f90s1 s0) (joinK (some f90l3) K) =
  slices_IndexFunc_int_int_expOk.Z3 N s0 (K .nrm f90s3) (fun t4 => K .ret (f90s4 t4)) :=
  viaSeq (fun k => slices_IndexFunc_int_int_expOk.Z4 N s0 k) (by kernel_rfl) (by kernel_rfl) (f90t4 N s0 (seqK (fun σ => f90i N f90c5 f90p5 σ (joinK (some f90l3) K)) (joinK (some f90l3) K))) (funext fun s0 => funext fun t7 => funext fun t8 => f90t5 N s0 t7 t8 K) (by kernel_rfl) (by kernel_rfl)
noncomputable def f90c8 := codeAt (bodyOf Try.f90) [1,1]
theorem f90t8 {ρ : Type} (N : Nat)  (K : KT ρ) : f90i N f90c8 .n f90s3 (joinK (some f90lE) K) =
  slices_IndexFunc_int_int_expOk.Z8 N (fun t4 => K .ret (f90s4 t4)) := by kernel_rfl
noncomputable def f90c2 := codeAt (bodyOf Try.f90) [1]
noncomputable def f90p2 : Plan := .mk (some f90l3) none f90p3 .n
theorem f90t2 {ρ : Type} (N : Nat) (s0 : List Int) (K : KT ρ) : f90i N f90c2 f90p2 (f90s1 s0) (joinK (some f90lE) K) =
  slices_IndexFunc_int_int_expOk.Z2 N s0 (fun t4 => K .ret (f90s4 t4)) :=
  viaSeq (fun k => slices_IndexFunc_int_int_expOk.Z3 N s0 k (fun t4 => K .ret (f90s4 t4))) (by kernel_rfl) (by kernel_rfl) (f90t3 N s0 (seqK (fun σ => f90i N f90c8 .n σ (joinK (some f90lE) K)) (joinK (some f90lE) K))) (f90t8 N K) (by kernel_rfl) (by kernel_rfl)
noncomputable def f90c0 := codeAt (bodyOf Try.f90) []
noncomputable def f90p0 : Plan := .mk (some f90l1) none .n f90p2
theorem f90t0 {ρ : Type} (N : Nat) (s0 : List Int) (f1 : Unit) (K : KT ρ) : f90i N f90c0 f90p0 (f90s0 s0 f1) (joinK (some f90lE) K) =
  slices_IndexFunc_int_int_expOk.Z0 N s0 f1 (fun t4 => K .ret (f90s4 t4)) :=
  viaSeq (fun k => slices_IndexFunc_int_int_expOk.Z1 N s0 f1 k) (by kernel_rfl) (by kernel_rfl) (f90t1 N s0 f1 (seqK (fun σ => f90i N f90c2 f90p2 σ (joinK (some f90lE) K)) (joinK (some f90lE) K))) (funext fun s0 => f90t2 N s0 K) (by kernel_rfl) (by kernel_rfl)
theorem f90m (N : Nat) (s0 : List Int) (f1 : Unit) : f90i N f90c0 f90p0 (f90s0 s0 f1) (joinK (some f90lE) (finK tab f90sig Try.f90.results.toList)) = slices_IndexFunc_int_int_expOk.Z0 N s0 f1 (fun t4 => some ((), (t4, ()))) :=
  (f90t0 N s0 f1 (finK tab f90sig Try.f90.results.toList)).trans (by kernel_rfl)
theorem f90ok (h : slices_IndexFunc_int_int_expOk.Spec) : EntryOk Try.prog 90 e90 :=
  entry_of_code (sig := f90sig) (c := f90c0) (pl := f90p0) (je := (some f90lE)) (B := f90B) Try.func90 (by kernel_rfl) (by kernel_rfl) (by kernel_rfl) tabOk f90GOk (by kernel_rfl) (by kernel_rfl) (by kernel_rfl) (by kernel_rfl) fun X hb hp => by
    obtain ⟨s0, f1, _⟩ := X
    obtain ⟨N, h⟩ := h s0 f1 hb.1
    exact ⟨N, (f90m N s0 f1).trans (h N (Nat.le_refl N))⟩
theorem e90ok : EntryOk Try.prog 90 e90 := f90ok slices_IndexFunc_int_int_expOk.ok
end Go.Fw
set_option linter.unusedVariables false
set_option linter.unusedSimpArgs false
set_option maxRecDepth 100000
namespace Go.Fw
open Go.Proofs
/-! ### slices.ContainsFunc[[]int,int] -/
noncomputable def f73sig : Sig := ⟨[⟨.sl 3 (.int .i64), false, false⟩, ⟨.fnc 80, false, false⟩], [⟨.bool, false, false⟩]⟩
noncomputable def e73 : Entry := ⟨f73sig, none, fun X => ((), ((slices_ContainsFunc_int_int_expOk.g X.1 X.2.1), ()))⟩
noncomputable def f73G : Nat → Option Entry := addG (fun _ => none) 90 e90
theorem f73GOk : GOk Try.prog f73G := (GOk.nil).add e90ok (by kernel_rfl)
noncomputable def f73lE : Clean := ⟨[], [], [], [], []⟩
noncomputable def f73s0 (s0 : List Int) (f1 : Unit) : St := initSt f73sig.ps (s0, (f1, ()))
noncomputable def f73s1 (t4 : Bool) : St := stOf [(4, .c (.bool t4))] [] []
noncomputable def f73l1 : Clean := ⟨[4], [], [], [], []⟩
noncomputable def f73B : Nat → Option Clean := lookL [(1000000, f73l1)]
noncomputable abbrev f73i {ρ : Type} (N : Nat) (c : Code) (p : Plan) (σ : St) (K : KT ρ) : Option ρ := iCode f73G tab f73B N c p σ K
noncomputable def f73c0 := codeAt (bodyOf Try.f73) []
theorem f73t0 {ρ : Type} (N : Nat) (s0 : List Int) (f1 : Unit) (K : KT ρ) : f73i N f73c0 .n (f73s0 s0 f1) (joinK (some f73lE) K) =
  slices_ContainsFunc_int_int_expOk.Z0 N s0 f1 (fun t4 => K .ret (f73s1 t4)) := by kernel_rfl
theorem f73m (N : Nat) (s0 : List Int) (f1 : Unit) : f73i N f73c0 .n (f73s0 s0 f1) (joinK (some f73lE) (finK tab f73sig Try.f73.results.toList)) = slices_ContainsFunc_int_int_expOk.Z0 N s0 f1 (fun t4 => some ((), (t4, ()))) :=
  (f73t0 N s0 f1 (finK tab f73sig Try.f73.results.toList)).trans (by kernel_rfl)
theorem f73ok (h : slices_ContainsFunc_int_int_expOk.Spec) : EntryOk Try.prog 73 e73 :=
  entry_of_code (sig := f73sig) (c := f73c0) (pl := .n) (je := (some f73lE)) (B := f73B) Try.func73 (by kernel_rfl) (by kernel_rfl) (by kernel_rfl) tabOk f73GOk (by kernel_rfl) (by kernel_rfl) (by kernel_rfl) (by kernel_rfl) fun X hb hp => by
    obtain ⟨s0, f1, _⟩ := X
    obtain ⟨N, h⟩ := h s0 f1 hb.1
    exact ⟨N, (f73m N s0 f1).trans (h N (Nat.le_refl N))⟩
theorem e73ok : EntryOk Try.prog 73 e73 := f73ok slices_ContainsFunc_int_int_expOk.ok
end Go.Fw
set_option linter.unusedVariables false
set_option linter.unusedSimpArgs false
set_option maxRecDepth 100000
namespace Go.Fw
open Go.Proofs
/-! ### loop.example/g03115/impl.expOk -/
noncomputable def f55sig : Sig := ⟨[⟨.sl 3 (.int .i64), false, false⟩, ⟨.int .i64, false, false⟩], [⟨.bool, false, false⟩]⟩
noncomputable def e55 : Entry := ⟨f55sig, none, fun X => ((), ((impl_expOk.g X.1 X.2.1), ()))⟩
noncomputable def f55G : Nat → Option Entry := addG (fun _ => none) 73 e73
theorem f55GOk : GOk Try.prog f55G := (GOk.nil).add e73ok (by kernel_rfl)
noncomputable def f55lE : Clean := ⟨[], [], [], [], []⟩
noncomputable def f55s0 (exp0 : List Int) (vars1 : Int) : St := initSt f55sig.ps (exp0, (vars1, ()))
noncomputable def f55s1 (t4 : Bool) : St := stOf [(4, .c (.bool t4))] [] []
noncomputable def f55l1 : Clean := ⟨[4], [], [], [], []⟩
noncomputable def f55B : Nat → Option Clean := lookL [(1000000, f55l1)]
noncomputable abbrev f55i {ρ : Type} (N : Nat) (c : Code) (p : Plan) (σ : St) (K : KT ρ) : Option ρ := iCode f55G tab f55B N c p σ K
noncomputable def f55c0 := codeAt (bodyOf Try.f55) []
theorem f55t0 {ρ : Type} (N : Nat) (exp0 : List Int) (vars1 : Int) (K : KT ρ) : f55i N f55c0 .n (f55s0 exp0 vars1) (joinK (some f55lE) K) =
  impl_expOk.Z0 N exp0 vars1 (fun t4 => K .ret (f55s1 t4)) := by kernel_rfl
theorem f55m (N : Nat) (exp0 : List Int) (vars1 : Int) : f55i N f55c0 .n (f55s0 exp0 vars1) (joinK (some f55lE) (finK tab f55sig Try.f55.results.toList)) = impl_expOk.Z0 N exp0 vars1 (fun t4 => some ((), (t4, ()))) :=
  (f55t0 N exp0 vars1 (finK tab f55sig Try.f55.results.toList)).trans (by kernel_rfl)
theorem f55ok (h : impl_expOk.Spec) : EntryOk Try.prog 55 e55 :=
  entry_of_code (sig := f55sig) (c := f55c0) (pl := .n) (je := (some f55lE)) (B := f55B) Try.func55 (by kernel_rfl) (by kernel_rfl) (by kernel_rfl) tabOk f55GOk (by kernel_rfl) (by kernel_rfl) (by kernel_rfl) (by kernel_rfl) fun X hb hp => by
    obtain ⟨exp0, vars1, _⟩ := X
    obtain ⟨N, h⟩ := h exp0 vars1 hb.1
    exact ⟨N, (f55m N exp0 vars1).trans (h N (Nat.le_refl N))⟩
theorem e55ok : EntryOk Try.prog 55 e55 := f55ok impl_expOk.ok
end Go.Fw
set_option linter.unusedVariables false
set_option linter.unusedSimpArgs false
set_option maxRecDepth 100000
namespace Go.Fw
open Go.Proofs
/-! ### loop.example/g03115/impl.coefOk -/
noncomputable def f59sig : Sig := ⟨[⟨.int .i64, false, false⟩], [⟨.bool, false, false⟩]⟩
noncomputable def e59 : Entry := ⟨f59sig, none, fun X => ((), ((impl_coefOk.g X.1), ()))⟩
noncomputable def f59G : Nat → Option Entry := addG (fun _ => none) 49 e49
theorem f59GOk : GOk Try.prog f59G := (GOk.nil).add e49ok (by kernel_rfl)
noncomputable def f59lE : Clean := ⟨[], [], [], [], []⟩
noncomputable def f59s0 (c0 : Int) : St := initSt f59sig.ps (c0, ())
noncomputable def f59s1 (t2 : Bool) : St := stOf [(2, .c (.bool t2))] [] []
noncomputable def f59l1 : Clean := ⟨[2], [], [], [], []⟩
noncomputable def f59B : Nat → Option Clean := lookL [(1000000, f59l1)]
noncomputable abbrev f59i {ρ : Type} (N : Nat) (c : Code) (p : Plan) (σ : St) (K : KT ρ) : Option ρ := iCode f59G tab f59B N c p σ K
noncomputable def f59c0 := codeAt (bodyOf Try.f59) []
theorem f59t0 {ρ : Type} (N : Nat) (c0 : Int) (K : KT ρ) : f59i N f59c0 .n (f59s0 c0) (joinK (some f59lE) K) =
  impl_coefOk.Z0 N c0 (fun t2 => K .ret (f59s1 t2)) := by kernel_rfl
theorem f59m (N : Nat) (c0 : Int) : f59i N f59c0 .n (f59s0 c0) (joinK (some f59lE) (finK tab f59sig Try.f59.results.toList)) = impl_coefOk.Z0 N c0 (fun t2 => some ((), (t2, ()))) :=
  (f59t0 N c0 (finK tab f59sig Try.f59.results.toList)).trans (by kernel_rfl)
theorem f59ok (h : impl_coefOk.Spec) : EntryOk Try.prog 59 e59 :=
  entry_of_code (sig := f59sig) (c := f59c0) (pl := .n) (je := (some f59lE)) (B := f59B) Try.func59 (by kernel_rfl) (by kernel_rfl) (by kernel_rfl) tabOk f59GOk (by kernel_rfl) (by kernel_rfl) (by kernel_rfl) (by kernel_rfl) fun X hb hp => by
    obtain ⟨c0, _⟩ := X
    obtain ⟨N, h⟩ := h c0
    exact ⟨N, (f59m N c0).trans (h N (Nat.le_refl N))⟩
theorem e59ok : EntryOk Try.prog 59 e59 := f59ok impl_coefOk.ok
end Go.Fw
set_option linter.unusedVariables false
set_option linter.unusedSimpArgs false
set_option maxRecDepth 100000
namespace Go.Fw
open Go.Proofs
/-! ### cmp.isNaN[int] -/
noncomputable def f91sig : Sig := ⟨[⟨.int .i64, false, false⟩], [⟨.bool, false, false⟩]⟩
noncomputable def e91 : Entry := ⟨f91sig, none, fun X => ((), ((cmp_isNaN_int.g X.1), ()))⟩
noncomputable def f91G : Nat → Option Entry := (fun _ => none)
theorem f91GOk : GOk Try.prog f91G := GOk.nil
noncomputable def f91lE : Clean := ⟨[], [], [], [], []⟩
noncomputable def f91s0 (x0 : Int) : St := initSt f91sig.ps (x0, ())
noncomputable def f91s1 (t2 : Bool) : St := stOf [(2, .c (.bool t2))] [] []
noncomputable def f91l1 : Clean := ⟨[2], [], [], [], []⟩
noncomputable def f91B : Nat → Option Clean := lookL [(1000000, f91l1)]
noncomputable abbrev f91i {ρ : Type} (N : Nat) (c : Code) (p : Plan) (σ : St) (K : KT ρ) : Option ρ := iCode f91G tab f91B N c p σ K
noncomputable def f91c0 := codeAt (bodyOf Try.f91) []
theorem f91t0 {ρ : Type} (N : Nat) (x0 : Int) (K : KT ρ) : f91i N f91c0 .n (f91s0 x0) (joinK (some f91lE) K) =
  cmp_isNaN_int.Z0 N x0 (fun t2 => K .ret (f91s1 t2)) := by kernel_rfl
theorem f91m (N : Nat) (x0 : Int) : f91i N f91c0 .n (f91s0 x0) (joinK (some f91lE) (finK tab f91sig Try.f91.results.toList)) = cmp_isNaN_int.Z0 N x0 (fun t2 => some ((), (t2, ()))) :=
  (f91t0 N x0 (finK tab f91sig Try.f91.results.toList)).trans (by kernel_rfl)
theorem f91ok (h : cmp_isNaN_int.Spec) : EntryOk Try.prog 91 e91 :=
  entry_of_code (sig := f91sig) (c := f91c0) (pl := .n) (je := (some f91lE)) (B := f91B) Try.func91 (by kernel_rfl) (by kernel_rfl) (by kernel_rfl) tabOk f91GOk (by kernel_rfl) (by kernel_rfl) (by kernel_rfl) (by kernel_rfl) fun X hb hp => by
    obtain ⟨x0, _⟩ := X
    obtain ⟨N, h⟩ := h x0
    exact ⟨N, (f91m N x0).trans (h N (Nat.le_refl N))⟩
theorem e91ok : EntryOk Try.prog 91 e91 := f91ok cmp_isNaN_int.ok
end Go.Fw
set_option linter.unusedVariables false
set_option linter.unusedSimpArgs false
set_option maxRecDepth 100000
namespace Go.Fw
open Go.Proofs
/-! ### cmp.Compare[int] -/
noncomputable def f83sig : Sig := ⟨[⟨.int .i64, false, false⟩, ⟨.int .i64, false, false⟩], [⟨.int .i64, false, false⟩]⟩
noncomputable def e83 : Entry := ⟨f83sig, none, fun X => ((), ((cmp_Compare_int.g X.1 X.2.1), ()))⟩
noncomputable def f83G : Nat → Option Entry := addG (fun _ => none) 91 e91
theorem f83GOk : GOk Try.prog f83G := (GOk.nil).add e91ok (by kernel_rfl)
noncomputable def f83lE : Clean := ⟨[], [], [], [], []⟩
noncomputable def f83s0 (x0 : Int) (y1 : Int) : St := initSt f83sig.ps (x0, (y1, ()))
noncomputable def f83s1 (t4 : Int) : St := stOf [(4, .c (.int .i64 t4))] [] []
noncomputable def f83l1 : Clean := ⟨[4], [], [], [], []⟩
noncomputable def f83B : Nat → Option Clean := lookL [(1000000, f83l1)]
noncomputable abbrev f83i {ρ : Type} (N : Nat) (c : Code) (p : Plan) (σ : St) (K : KT ρ) : Option ρ := iCode f83G tab f83B N c p σ K
noncomputable def f83c0 := codeAt (bodyOf Try.f83) []
theorem f83t0 {ρ : Type} (N : Nat) (x0 : Int) (y1 : Int) (K : KT ρ) : f83i N f83c0 .n (f83s0 x0 y1) (joinK (some f83lE) K) =
  cmp_Compare_int.Z0 N x0 y1 (fun t4 => K .ret (f83s1 t4)) := by kernel_rfl
theorem f83m (N : Nat) (x0 : Int) (y1 : Int) : f83i N f83c0 .n (f83s0 x0 y1) (joinK (some f83lE) (finK tab f83sig Try.f83.results.toList)) = cmp_Compare_int.Z0 N x0 y1 (fun t4 => some ((), (t4, ()))) :=
  (f83t0 N x0 y1 (finK tab f83sig Try.f83.results.toList)).trans (by kernel_rfl)
theorem f83ok (h : cmp_Compare_int.Spec) : EntryOk Try.prog 83 e83 :=
  entry_of_code (sig := f83sig) (c := f83c0) (pl := .n) (je := (some f83lE)) (B := f83B) Try.func83 (by kernel_rfl) (by kernel_rfl) (by kernel_rfl) tabOk f83GOk (by kernel_rfl) (by kernel_rfl) (by kernel_rfl) (by kernel_rfl) fun X hb hp => by
    obtain ⟨x0, y1, _⟩ := X
    obtain ⟨N, h⟩ := h x0 y1
    exact ⟨N, (f83m N x0 y1).trans (h N (Nat.le_refl N))⟩
theorem e83ok : EntryOk Try.prog 83 e83 := f83ok cmp_Compare_int.ok
end Go.Fw
set_option linter.unusedVariables false
set_option linter.unusedSimpArgs false
set_option maxRecDepth 100000
namespace Go.Fw
open Go.Proofs
/-! ### slices.Compare[[]int,int] -/
noncomputable def f60sig : Sig := ⟨[⟨.sl 3 (.int .i64), false, false⟩, ⟨.sl 3 (.int .i64), false, false⟩], [⟨.int .i64, false, false⟩]⟩
noncomputable def e60 : Entry := ⟨f60sig, none, fun X => ((), ((slices_Compare_int_int.g X.1 X.2.1), ()))⟩
noncomputable def f60G : Nat → Option Entry := addG (fun _ => none) 83 e83
theorem f60GOk : GOk Try.prog f60G := (GOk.nil).add e83ok (by kernel_rfl)
noncomputable def f60lE : Clean := ⟨[], [], [], [], []⟩
noncomputable def f60s0 (s10 : List Int) (s21 : List Int) : St := initSt f60sig.ps (s10, (s21, ()))
noncomputable def f60s1 (s10 : List Int) (s21 : List Int) : St := stOf [(0, .c (.sn 3 (.int .i64) s10 none)), (1, .c (.sn 3 (.int .i64) s21 none))] [] []
noncomputable def f60l1 : Clean := ⟨[0, 1], [], [], [], []⟩
noncomputable def f60s2 (s10 : List Int) (s21 : List Int) (t9 : List Int) (t10 : Int) (t11 : Int) : St := stOf [(0, .c (.sn 3 (.int .i64) s10 none)), (1, .c (.sn 3 (.int .i64) s21 none)), (9, .c (.sn 3 (.int .i64) t9 none)), (10, .c (.int .i64 t10)), (11, .c (.int .i64 t11))] [] []
noncomputable def f60l2 : Clean := ⟨[0, 1, 9, 10, 11], [], [], [], []⟩
noncomputable def f60s3 (t4 : Int) : St := stOf [(4, .c (.int .i64 t4))] [] []
noncomputable def f60l3 : Clean := ⟨[4], [], [], [], []⟩
noncomputable def f60B : Nat → Option Clean := lookL [(0, f60l1), (1000000, f60l3)]
noncomputable abbrev f60i {ρ : Type} (N : Nat) (c : Code) (p : Plan) (σ : St) (K : KT ρ) : Option ρ := iCode f60G tab f60B N c p σ K
noncomputable def f60c1 := codeAt (bodyOf Try.f60) [0]
theorem f60t1 {ρ : Type} (N : Nat) (s10 : List Int) (s21 : List Int) (K : KT ρ) : f60i N f60c1 .n (f60s0 s10 s21) (joinK (some f60l1) K) =
  slices_Compare_int_int.Z1 N s10 s21 (fun s10 s21 => K .nrm (f60s1 s10 s21)) := by kernel_rfl
noncomputable def f60c4 := codeAt (bodyOf Try.f60) [1,0,0]
theorem f60t4 {ρ : Type} (N : Nat) (s10 : List Int) (s21 : List Int) (K : KT ρ) : f60i N f60c4 .n (f60s1 s10 s21) (joinK (some f60l2) K) =
  slices_Compare_int_int.Z4 N s10 s21 (fun s10 s21 t9 t10 t11 => K .nrm (f60s2 s10 s21 t9 t10 t11)) := by kernel_rfl
noncomputable def f60c7 := codeAt (bodyOf Try.f60) [1,0,1,0,0]
theorem f60t7 {ρ : Type} (N : Nat) (s10 : List Int) (s21 : List Int) (t9 : List Int) (t10 : Int) (t11 : Int) (K : KT ρ) : f60i N f60c7 .n (f60s2 s10 s21 t9 t10 t11) (joinK (some f60l2) K) =
  slices_Compare_int_int.Z7 N s10 s21 t9 t10 t11 (fun s10 s21 t9 t10 t11 => K .nrm (f60s2 s10 s21 t9 t10 t11)) (fun s10 s21 => K (.exit 0) (f60s1 s10 s21)) (fun t4 => K .ret (f60s3 t4)) := by kernel_rfl
noncomputable def f60c6 := codeAt (bodyOf Try.f60) [1,0,1,0]
noncomputable def f60p6 : Plan := .mk none (some f60l2) .n .n
noncomputable abbrev f60w6 {ρ : Type} (N : Nat) (M : Nat) (σ : St) (K : KT ρ) : Option ρ := loopC (fun σ K => f60i N f60c7 .n σ K) f60l2 M σ K
theorem f60t6L {ρ : Type} (N : Nat) (K : KT ρ) : ∀ (M : Nat) (s10 : List Int) (s21 : List Int) (t9 : List Int) (t10 : Int) (t11 : Int), f60w6 N M (f60s2 s10 s21 t9 t10 t11) K =
  slices_Compare_int_int.Z6L N (fun s10 s21 => K (.exit 0) (f60s1 s10 s21)) (fun t4 => K .ret (f60s3 t4)) M s10 s21 t9 t10 t11
  | 0, _, _, _, _, _ => rfl
  | M + 1, s10, s21, t9, t10, t11 => viaRound (fun k => slices_Compare_int_int.Z7 N s10 s21 t9 t10 t11 k (fun s10 s21 => K (.exit 0) (f60s1 s10 s21)) (fun t4 => K .ret (f60s3 t4))) (f60t7 N s10 s21 t9 t10 t11 (seqK (fun σ => f60w6 N M σ K) K)) (funext fun s10 => funext fun s21 => funext fun t9 => funext fun t10 => funext fun t11 => f60t6L N K M s10 s21 t9 t10 t11) (by kernel_rfl) (by kernel_rfl)
theorem f60t6 {ρ : Type} (N : Nat) (s10 : List Int) (s21 : List Int) (t9 : List Int) (t10 : Int) (t11 : Int) (K : KT ρ) : f60i N f60c6 f60p6 (f60s2 s10 s21 t9 t10 t11) (joinK (some f60l1) K) =
  slices_Compare_int_int.Z6 N s10 s21 t9 t10 t11 (fun s10 s21 => K (.exit 0) (f60s1 s10 s21)) (fun t4 => K .ret (f60s3 t4)) :=
  viaLoop (by kernel_rfl) (by kernel_rfl) (σ' := f60s2 s10 s21 t9 t10 t11) (by kernel_rfl) (f60t6L N (joinK (some f60l1) K) N s10 s21 t9 t10 t11) (by kernel_rfl)
noncomputable def f60c5 := codeAt (bodyOf Try.f60) [1,0,1]
noncomputable def f60p5 : Plan := .mk (some f60l1) none f60p6 .n
theorem f60t5 {ρ : Type} (N : Nat) (s10 : List Int) (s21 : List Int) (t9 : List Int) (t10 : Int) (t11 : Int) (K : KT ρ) : f60i N f60c5 f60p5 (f60s2 s10 s21 t9 t10 t11) (joinK (some f60l1) K) =
  slices_Compare_int_int.Z5 N s10 s21 t9 t10 t11 (fun s10 s21 => K .nrm (f60s1 s10 s21)) (fun t4 => K .ret (f60s3 t4)) :=
  viaBlock (by kernel_rfl) (by kernel_rfl) (f60t6 N s10 s21 t9 t10 t11 (blockK 0 (joinK (some f60l1) K))) (by kernel_rfl)
noncomputable def f60c3 := codeAt (bodyOf Try.f60) [1,0]
noncomputable def f60p3 : Plan := .mk (some f60l2) none .n f60p5
theorem f60t3 {ρ : Type} (N : Nat) (s10 : List Int) (s21 : List Int) (K : KT ρ) : f60i N f60c3 f60p3 (f60s1 s10 s21) (joinK (some f60l1) K) =
  slices_Compare_int_int.Z3 N s10 s21 (fun s10 s21 => K .nrm (f60s1 s10 s21)) (fun t4 => K .ret (f60s3 t4)) :=
  viaSeq (fun k => slices_Compare_int_int.Z4 N s10 s21 k) (by kernel_rfl) (by kernel_rfl) (f60t4 N s10 s21 (seqK (fun σ => f60i N f60c5 f60p5 σ (joinK (some f60l1) K)) (joinK (some f60l1) K))) (funext fun s10 => funext fun s21 => funext fun t9 => funext fun t10 => funext fun t11 => f60t5 N s10 s21 t9 t10 t11 K) (by kernel_rfl) (by kernel_rfl)
noncomputable def f60c8 := codeAt (bodyOf Try.f60) [1,1]
theorem f60t8 {ρ : Type} (N : Nat) (s10 : List Int) (s21 : List Int) (K : KT ρ) : f60i N f60c8 .n (f60s1 s10 s21) (joinK (some f60lE) K) =
  slices_Compare_int_int.Z8 N s10 s21 (fun t4 => K .ret (f60s3 t4)) := by kernel_rfl
noncomputable def f60c2 := codeAt (bodyOf Try.f60) [1]
noncomputable def f60p2 : Plan := .mk (some f60l1) none f60p3 .n
theorem f60t2 {ρ : Type} (N : Nat) (s10 : List Int) (s21 : List Int) (K : KT ρ) : f60i N f60c2 f60p2 (f60s1 s10 s21) (joinK (some f60lE) K) =
  slices_Compare_int_int.Z2 N s10 s21 (fun t4 => K .ret (f60s3 t4)) :=
  viaSeq (fun k => slices_Compare_int_int.Z3 N s10 s21 k (fun t4 => K .ret (f60s3 t4))) (by kernel_rfl) (by kernel_rfl) (f60t3 N s10 s21 (seqK (fun σ => f60i N f60c8 .n σ (joinK (some f60lE) K)) (joinK (some f60lE) K))) (funext fun s10 => funext fun s21 => f60t8 N s10 s21 K) (by kernel_rfl) (by kernel_rfl)
noncomputable def f60c0 := codeAt (bodyOf Try.f60) []
noncomputable def f60p0 : Plan := .mk (some f60l1) none .n f60p2
theorem f60t0 {ρ : Type} (N : Nat) (s10 : List Int) (s21 : List Int) (K : KT ρ) : f60i N f60c0 f60p0 (f60s0 s10 s21) (joinK (some f60lE) K) =
  slices_Compare_int_int.Z0 N s10 s21 (fun t4 => K .ret (f60s3 t4)) :=
  viaSeq (fun k => slices_Compare_int_int.Z1 N s10 s21 k) (by kernel_rfl) (by kernel_rfl) (f60t1 N s10 s21 (seqK (fun σ => f60i N f60c2 f60p2 σ (joinK (some f60lE) K)) (joinK (some f60lE) K))) (funext fun s10 => funext fun s21 => f60t2 N s10 s21 K) (by kernel_rfl) (by kernel_rfl)
theorem f60m (N : Nat) (s10 : List Int) (s21 : List Int) : f60i N f60c0 f60p0 (f60s0 s10 s21) (joinK (some f60lE) (finK tab f60sig Try.f60.results.toList)) = slices_Compare_int_int.Z0 N s10 s21 (fun t4 => some ((), (t4, ()))) :=
  (f60t0 N s10 s21 (finK tab f60sig Try.f60.results.toList)).trans (by kernel_rfl)
theorem f60ok (h : slices_Compare_int_int.Spec) : EntryOk Try.prog 60 e60 :=
  entry_of_code (sig := f60sig) (c := f60c0) (pl := f60p0) (je := (some f60lE)) (B := f60B) Try.func60 (by kernel_rfl) (by kernel_rfl) (by kernel_rfl) tabOk f60GOk (by kernel_rfl) (by kernel_rfl) (by kernel_rfl) (by kernel_rfl) fun X hb hp => by
    obtain ⟨s10, s21, _⟩ := X
    obtain ⟨N, h⟩ := h s10 s21 hb.1 hb.2.1
    exact ⟨N, (f60m N s10 s21).trans (h N (Nat.le_refl N))⟩
theorem e60ok : EntryOk Try.prog 60 e60 := f60ok slices_Compare_int_int.ok
end Go.Fw
set_option linter.unusedVariables false
set_option linter.unusedSimpArgs false
set_option maxRecDepth 100000
namespace Go.Fw
open Go.Proofs
/-! ### loop.example/g03115/impl.LaurentOk -/
noncomputable def f27sig : Sig := ⟨[⟨.pair (.int .i64) (.sl 59 (.pair (.sl 3 (.int .i64)) (.int .i64))), true, false⟩], [⟨.bool, false, false⟩]⟩
noncomputable def e27 : Entry := ⟨f27sig, none, fun X => ((), ((impl_LaurentOk.g X.1), ()))⟩
noncomputable def f27G : Nat → Option Entry := addG (addG (addG (addG (fun _ => none) 49 e49) 55 e55) 59 e59) 60 e60
theorem f27GOk : GOk Try.prog f27G := ((((GOk.nil).add e49ok (by kernel_rfl)).add e55ok (by kernel_rfl)).add e59ok (by kernel_rfl)).add e60ok (by kernel_rfl)
noncomputable def f27lE : Clean := ⟨[], [], [], [], []⟩
noncomputable def f27s0 (f0 : Int × List (List Int × Int)) : St := initSt f27sig.ps (f0, ())
noncomputable def f27s1 (f1_0 : Int) (f1_1 : List (List Int × Int)) : St := stOf [(1, .c (.box 1 0))] [(1, (25, [.int .i64 f1_0, .sn 59 (.pair (.sl 3 (.int .i64)) (.int .i64)) f1_1 none]))] []
noncomputable def f27l1 : Clean := ⟨[1], [1], [], [], []⟩
noncomputable def f27s2 (t16 : List (List Int × Int)) (t17 : Int) (t18 : Int) (f1_0 : Int) (f1_1 : List (List Int × Int)) : St := stOf [(1, .c (.box 1 0)), (16, .c (.sn 59 (.pair (.sl 3 (.int .i64)) (.int .i64)) t16 none)), (17, .c (.int .i64 t17)), (18, .c (.int .i64 t18))] [(1, (25, [.int .i64 f1_0, .sn 59 (.pair (.sl 3 (.int .i64)) (.int .i64)) f1_1 none]))] []
noncomputable def f27l2 : Clean := ⟨[1, 16, 17, 18], [1], [], [], []⟩
noncomputable def f27s3  : St := stOf [] [] []
noncomputable def f27l3 : Clean := ⟨[], [], [], [], []⟩
noncomputable def f27s4 (t2 : Bool) : St := stOf [(2, .c (.bool t2))] [] []
noncomputable def f27l4 : Clean := ⟨[2], [], [], [], []⟩
noncomputable def f27B : Nat → Option Clean := lookL [(0, f27l3), (1000000, f27l4)]
noncomputable abbrev f27i {ρ : Type} (N : Nat) (c : Code) (p : Plan) (σ : St) (K : KT ρ) : Option ρ := iCode f27G tab f27B N c p σ K
noncomputable def f27c1 := codeAt (bodyOf Try.f27) [0]
theorem f27t1 {ρ : Type} (N : Nat) (f0 : Int × List (List Int × Int)) (K : KT ρ) : f27i N f27c1 .n (f27s0 f0) (joinK (some f27l1) K) =
  impl_LaurentOk.Z1 N f0 (fun f1_0 f1_1 => K .nrm (f27s1 f1_0 f1_1)) := by kernel_rfl
noncomputable def f27c3 := codeAt (bodyOf Try.f27) [1,0]
theorem f27t3 {ρ : Type} (N : Nat) (f1_0 : Int) (f1_1 : List (List Int × Int)) (K : KT ρ) : f27i N f27c3 .n (f27s1 f1_0 f1_1) (joinK (some f27l1) K) =
  impl_LaurentOk.Z3 N f1_0 f1_1 (fun f1_0 f1_1 => K .nrm (f27s1 f1_0 f1_1)) (fun t2 => K .ret (f27s4 t2)) := by kernel_rfl
noncomputable def f27c6 := codeAt (bodyOf Try.f27) [1,1,0,0]
theorem f27t6 {ρ : Type} (N : Nat) (f1_0 : Int) (f1_1 : List (List Int × Int)) (K : KT ρ) : f27i N f27c6 .n (f27s1 f1_0 f1_1) (joinK (some f27l2) K) =
  impl_LaurentOk.Z6 N f1_0 f1_1 (fun t16 t17 t18 f1_0 f1_1 => K .nrm (f27s2 t16 t17 t18 f1_0 f1_1)) := by kernel_rfl
noncomputable def f27c9 := codeAt (bodyOf Try.f27) [1,1,0,1,0,0]
theorem f27t9 {ρ : Type} (N : Nat) (t16 : List (List Int × Int)) (t17 : Int) (t18 : Int) (f1_0 : Int) (f1_1 : List (List Int × Int)) (K : KT ρ) : f27i N f27c9 .n (f27s2 t16 t17 t18 f1_0 f1_1) (joinK (some f27l2) K) =
  impl_LaurentOk.Z9 N t16 t17 t18 f1_0 f1_1 (fun t16 t17 t18 f1_0 f1_1 => K .nrm (f27s2 t16 t17 t18 f1_0 f1_1)) (K (.exit 0) f27s3) (fun t2 => K .ret (f27s4 t2)) := by kernel_rfl
noncomputable def f27c8 := codeAt (bodyOf Try.f27) [1,1,0,1,0]
noncomputable def f27p8 : Plan := .mk none (some f27l2) .n .n
noncomputable abbrev f27w8 {ρ : Type} (N : Nat) (M : Nat) (σ : St) (K : KT ρ) : Option ρ := loopC (fun σ K => f27i N f27c9 .n σ K) f27l2 M σ K
theorem f27t8L {ρ : Type} (N : Nat) (K : KT ρ) : ∀ (M : Nat) (t16 : List (List Int × Int)) (t17 : Int) (t18 : Int) (f1_0 : Int) (f1_1 : List (List Int × Int)), f27w8 N M (f27s2 t16 t17 t18 f1_0 f1_1) K =
  impl_LaurentOk.Z8L N (K (.exit 0) f27s3) (fun t2 => K .ret (f27s4 t2)) M t16 t17 t18 f1_0 f1_1
  | 0, _, _, _, _, _ => rfl
  | M + 1, t16, t17, t18, f1_0, f1_1 => viaRound (fun k => impl_LaurentOk.Z9 N t16 t17 t18 f1_0 f1_1 k (K (.exit 0) f27s3) (fun t2 => K .ret (f27s4 t2))) (f27t9 N t16 t17 t18 f1_0 f1_1 (seqK (fun σ => f27w8 N M σ K) K)) (funext fun t16 => funext fun t17 => funext fun t18 => funext fun f1_0 => funext fun f1_1 => f27t8L N K M t16 t17 t18 f1_0 f1_1) (by kernel_rfl) (by kernel_rfl)
theorem f27t8 {ρ : Type} (N : Nat) (t16 : List (List Int × Int)) (t17 : Int) (t18 : Int) (f1_0 : Int) (f1_1 : List (List Int × Int)) (K : KT ρ) : f27i N f27c8 f27p8 (f27s2 t16 t17 t18 f1_0 f1_1) (joinK (some f27l3) K) =
  impl_LaurentOk.Z8 N t16 t17 t18 f1_0 f1_1 (K (.exit 0) f27s3) (fun t2 => K .ret (f27s4 t2)) :=
  viaLoop (by kernel_rfl) (by kernel_rfl) (σ' := f27s2 t16 t17 t18 f1_0 f1_1) (by kernel_rfl) (f27t8L N (joinK (some f27l3) K) N t16 t17 t18 f1_0 f1_1) (by kernel_rfl)
noncomputable def f27c7 := codeAt (bodyOf Try.f27) [1,1,0,1]
noncomputable def f27p7 : Plan := .mk (some f27l3) none f27p8 .n
theorem f27t7 {ρ : Type} (N : Nat) (t16 : List (List Int × Int)) (t17 : Int) (t18 : Int) (f1_0 : Int) (f1_1 : List (List Int × Int)) (K : KT ρ) : f27i N f27c7 f27p7 (f27s2 t16 t17 t18 f1_0 f1_1) (joinK (some f27l3) K) =
  impl_LaurentOk.Z7 N t16 t17 t18 f1_0 f1_1 (K .nrm f27s3) (fun t2 => K .ret (f27s4 t2)) :=
  viaBlock (by kernel_rfl) (by kernel_rfl) (f27t8 N t16 t17 t18 f1_0 f1_1 (blockK 0 (joinK (some f27l3) K))) (by kernel_rfl)
noncomputable def f27c5 := codeAt (bodyOf Try.f27) [1,1,0]
noncomputable def f27p5 : Plan := .mk (some f27l2) none .n f27p7
theorem f27t5 {ρ : Type} (N : Nat) (f1_0 : Int) (f1_1 : List (List Int × Int)) (K : KT ρ) : f27i N f27c5 f27p5 (f27s1 f1_0 f1_1) (joinK (some f27l3) K) =
  impl_LaurentOk.Z5 N f1_0 f1_1 (K .nrm f27s3) (fun t2 => K .ret (f27s4 t2)) :=
  viaSeq (fun k => impl_LaurentOk.Z6 N f1_0 f1_1 k) (by kernel_rfl) (by kernel_rfl) (f27t6 N f1_0 f1_1 (seqK (fun σ => f27i N f27c7 f27p7 σ (joinK (some f27l3) K)) (joinK (some f27l3) K))) (funext fun t16 => funext fun t17 => funext fun t18 => funext fun f1_0 => funext fun f1_1 => f27t7 N t16 t17 t18 f1_0 f1_1 K) (by kernel_rfl) (by kernel_rfl)
noncomputable def f27c10 := codeAt (bodyOf Try.f27) [1,1,1]
theorem f27t10 {ρ : Type} (N : Nat)  (K : KT ρ) : f27i N f27c10 .n f27s3 (joinK (some f27lE) K) =
  impl_LaurentOk.Z10 N (fun t2 => K .ret (f27s4 t2)) := by kernel_rfl
noncomputable def f27c4 := codeAt (bodyOf Try.f27) [1,1]
noncomputable def f27p4 : Plan := .mk (some f27l3) none f27p5 .n
theorem f27t4 {ρ : Type} (N : Nat) (f1_0 : Int) (f1_1 : List (List Int × Int)) (K : KT ρ) : f27i N f27c4 f27p4 (f27s1 f1_0 f1_1) (joinK (some f27lE) K) =
  impl_LaurentOk.Z4 N f1_0 f1_1 (fun t2 => K .ret (f27s4 t2)) :=
  viaSeq (fun k => impl_LaurentOk.Z5 N f1_0 f1_1 k (fun t2 => K .ret (f27s4 t2))) (by kernel_rfl) (by kernel_rfl) (f27t5 N f1_0 f1_1 (seqK (fun σ => f27i N f27c10 .n σ (joinK (some f27lE) K)) (joinK (some f27lE) K))) (f27t10 N K) (by kernel_rfl) (by kernel_rfl)
noncomputable def f27c2 := codeAt (bodyOf Try.f27) [1]
noncomputable def f27p2 : Plan := .mk (some f27l1) none .n f27p4
theorem f27t2 {ρ : Type} (N : Nat) (f1_0 : Int) (f1_1 : List (List Int × Int)) (K : KT ρ) : f27i N f27c2 f27p2 (f27s1 f1_0 f1_1) (joinK (some f27lE) K) =
  impl_LaurentOk.Z2 N f1_0 f1_1 (fun t2 => K .ret (f27s4 t2)) :=
  viaSeq (fun k => impl_LaurentOk.Z3 N f1_0 f1_1 k (fun t2 => K .ret (f27s4 t2))) (by kernel_rfl) (by kernel_rfl) (f27t3 N f1_0 f1_1 (seqK (fun σ => f27i N f27c4 f27p4 σ (joinK (some f27lE) K)) (joinK (some f27lE) K))) (funext fun f1_0 => funext fun f1_1 => f27t4 N f1_0 f1_1 K) (by kernel_rfl) (by kernel_rfl)
noncomputable def f27c0 := codeAt (bodyOf Try.f27) []
noncomputable def f27p0 : Plan := .mk (some f27l1) none .n f27p2
theorem f27t0 {ρ : Type} (N : Nat) (f0 : Int × List (List Int × Int)) (K : KT ρ) : f27i N f27c0 f27p0 (f27s0 f0) (joinK (some f27lE) K) =
  impl_LaurentOk.Z0 N f0 (fun t2 => K .ret (f27s4 t2)) :=
  viaSeq (fun k => impl_LaurentOk.Z1 N f0 k) (by kernel_rfl) (by kernel_rfl) (f27t1 N f0 (seqK (fun σ => f27i N f27c2 f27p2 σ (joinK (some f27lE) K)) (joinK (some f27lE) K))) (funext fun f1_0 => funext fun f1_1 => f27t2 N f1_0 f1_1 K) (by kernel_rfl) (by kernel_rfl)
theorem f27m (N : Nat) (f0 : Int × List (List Int × Int)) : f27i N f27c0 f27p0 (f27s0 f0) (joinK (some f27lE) (finK tab f27sig Try.f27.results.toList)) = impl_LaurentOk.Z0 N f0 (fun t2 => some ((), (t2, ()))) :=
  (f27t0 N f0 (finK tab f27sig Try.f27.results.toList)).trans (by kernel_rfl)
theorem f27ok (h : impl_LaurentOk.Spec) : EntryOk Try.prog 27 e27 :=
  entry_of_code (sig := f27sig) (c := f27c0) (pl := f27p0) (je := (some f27lE)) (B := f27B) Try.func27 (by kernel_rfl) (by kernel_rfl) (by kernel_rfl) tabOk f27GOk (by kernel_rfl) (by kernel_rfl) (by kernel_rfl) (by kernel_rfl) fun X hb hp => by
    obtain ⟨f0, _⟩ := X
    obtain ⟨N, h⟩ := h f0 hb.1
    exact ⟨N, (f27m N f0).trans (h N (Nat.le_refl N))⟩
theorem e27ok : EntryOk Try.prog 27 e27 := f27ok impl_LaurentOk.ok
end Go.Fw
set_option linter.unusedVariables false
set_option linter.unusedSimpArgs false
set_option maxRecDepth 100000
namespace Go.Fw
open Go.Proofs
/-! ### loop.example/g03115/impl.residue -/
noncomputable def f75sig : Sig := ⟨[⟨.int .i64, false, false⟩], [⟨.int .i64, false, false⟩]⟩
noncomputable def e75 : Entry := ⟨f75sig, none, fun X => ((), ((impl_residue.g X.1), ()))⟩
noncomputable def f75G : Nat → Option Entry := (fun _ => none)
theorem f75GOk : GOk Try.prog f75G := GOk.nil
noncomputable def f75lE : Clean := ⟨[], [], [], [], []⟩
noncomputable def f75s0 (n0 : Int) : St := initSt f75sig.ps (n0, ())
noncomputable def f75s1 (t2 : Int) : St := stOf [(2, .c (.int .i64 t2))] [] []
noncomputable def f75l1 : Clean := ⟨[2], [], [], [], []⟩
noncomputable def f75B : Nat → Option Clean := lookL [(1000000, f75l1)]
noncomputable abbrev f75i {ρ : Type} (N : Nat) (c : Code) (p : Plan) (σ : St) (K : KT ρ) : Option ρ := iCode f75G tab f75B N c p σ K
noncomputable def f75c0 := codeAt (bodyOf Try.f75) []
theorem f75t0 {ρ : Type} (N : Nat) (n0 : Int) (K : KT ρ) : f75i N f75c0 .n (f75s0 n0) (joinK (some f75lE) K) =
  impl_residue.Z0 N n0 (fun t2 => K .ret (f75s1 t2)) := by kernel_rfl
theorem f75m (N : Nat) (n0 : Int) : f75i N f75c0 .n (f75s0 n0) (joinK (some f75lE) (finK tab f75sig Try.f75.results.toList)) = impl_residue.Z0 N n0 (fun t2 => some ((), (t2, ()))) :=
  (f75t0 N n0 (finK tab f75sig Try.f75.results.toList)).trans (by kernel_rfl)
theorem f75ok (h : impl_residue.Spec) : EntryOk Try.prog 75 e75 :=
  entry_of_code (sig := f75sig) (c := f75c0) (pl := .n) (je := (some f75lE)) (B := f75B) Try.func75 (by kernel_rfl) (by kernel_rfl) (by kernel_rfl) tabOk f75GOk (by kernel_rfl) (by kernel_rfl) (by kernel_rfl) (by kernel_rfl) fun X hb hp => by
    obtain ⟨n0, _⟩ := X
    obtain ⟨N, h⟩ := h n0
    exact ⟨N, (f75m N n0).trans (h N (Nat.le_refl N))⟩
theorem e75ok : EntryOk Try.prog 75 e75 := f75ok impl_residue.ok
end Go.Fw
set_option linter.unusedVariables false
set_option linter.unusedSimpArgs false
set_option maxRecDepth 100000
namespace Go.Fw
open Go.Proofs
/-! ### loop.example/g03115/impl.EvaluateLaurent$1 -/
noncomputable def f74sig : Sig := ⟨[⟨.int .i64, false, false⟩], [⟨.bool, false, false⟩]⟩
noncomputable def e74 : Entry := ⟨f74sig, none, fun X => ((), ((impl_EvaluateLaurent_1.g X.1), ()))⟩
noncomputable def f74G : Nat → Option Entry := addG (fun _ => none) 75 e75
theorem f74GOk : GOk Try.prog f74G := (GOk.nil).add e75ok (by kernel_rfl)
noncomputable def f74lE : Clean := ⟨[], [], [], [], []⟩
noncomputable def f74s0 (v0 : Int) : St := initSt f74sig.ps (v0, ())
noncomputable def f74s1 (t2 : Bool) : St := stOf [(2, .c (.bool t2))] [] []
noncomputable def f74l1 : Clean := ⟨[2], [], [], [], []⟩
noncomputable def f74B : Nat → Option Clean := lookL [(1000000, f74l1)]
noncomputable abbrev f74i {ρ : Type} (N : Nat) (c : Code) (p : Plan) (σ : St) (K : KT ρ) : Option ρ := iCode f74G tab f74B N c p σ K
noncomputable def f74c0 := codeAt (bodyOf Try.f74) []
theorem f74t0 {ρ : Type} (N : Nat) (v0 : Int) (K : KT ρ) : f74i N f74c0 .n (f74s0 v0) (joinK (some f74lE) K) =
  impl_EvaluateLaurent_1.Z0 N v0 (fun t2 => K .ret (f74s1 t2)) := by kernel_rfl
theorem f74m (N : Nat) (v0 : Int) : f74i N f74c0 .n (f74s0 v0) (joinK (some f74lE) (finK tab f74sig Try.f74.results.toList)) = impl_EvaluateLaurent_1.Z0 N v0 (fun t2 => some ((), (t2, ()))) :=
  (f74t0 N v0 (finK tab f74sig Try.f74.results.toList)).trans (by kernel_rfl)
theorem f74ok (h : impl_EvaluateLaurent_1.Spec) : EntryOk Try.prog 74 e74 :=
  entry_of_code (sig := f74sig) (c := f74c0) (pl := .n) (je := (some f74lE)) (B := f74B) Try.func74 (by kernel_rfl) (by kernel_rfl) (by kernel_rfl) tabOk f74GOk (by kernel_rfl) (by kernel_rfl) (by kernel_rfl) (by kernel_rfl) fun X hb hp => by
    obtain ⟨v0, _⟩ := X
    obtain ⟨N, h⟩ := h v0
    exact ⟨N, (f74m N v0).trans (h N (Nat.le_refl N))⟩
theorem e74ok : EntryOk Try.prog 74 e74 := f74ok impl_EvaluateLaurent_1.ok
end Go.Fw
set_option linter.unusedVariables false
set_option linter.unusedSimpArgs false
set_option maxRecDepth 100000
namespace Go.Fw
open Go.Proofs
/-! ### slices.IndexFunc[[]int,int] -/
noncomputable def f90csig : Sig := ⟨[⟨.sl 3 (.int .i64), false, false⟩, ⟨.fnc 74, false, false⟩], [⟨.int .i64, false, false⟩]⟩
noncomputable def e90c : Entry := ⟨f90csig, none, fun X => ((), ((slices_IndexFunc_int_int_Evaluate.g X.1 X.2.1), ()))⟩
noncomputable def f90cG : Nat → Option Entry := addG (fun _ => none) 74 e74
theorem f90cGOk : GOk Try.prog f90cG := (GOk.nil).add e74ok (by kernel_rfl)
noncomputable def f90clE : Clean := ⟨[], [], [], [], []⟩
noncomputable def f90cs0 (s0 : List Int) (f1 : Unit) : St := initSt f90csig.ps (s0, (f1, ()))
noncomputable def f90cs1 (s0 : List Int) : St := stOf [(0, .c (.sn 3 (.int .i64) s0 none)), (1, .c (.fn 74 []))] [] []
noncomputable def f90cl1 : Clean := ⟨[0, 1], [], [], [], []⟩
noncomputable def f90cs2 (s0 : List Int) (t7 : Int) (t8 : Int) : St := stOf [(0, .c (.sn 3 (.int .i64) s0 none)), (1, .c (.fn 74 [])), (7, .c (.int .i64 t7)), (8, .c (.int .i64 t8))] [] []
noncomputable def f90cl2 : Clean := ⟨[0, 1, 7, 8], [], [], [], []⟩
noncomputable def f90cs3  : St := stOf [] [] []
noncomputable def f90cl3 : Clean := ⟨[], [], [], [], []⟩
noncomputable def f90cs4 (t4 : Int) : St := stOf [(4, .c (.int .i64 t4))] [] []
noncomputable def f90cl4 : Clean := ⟨[4], [], [], [], []⟩
noncomputable def f90cB : Nat → Option Clean := lookL [(0, f90cl3), (1000000, f90cl4)]
noncomputable abbrev f90ci {ρ : Type} (N : Nat) (c : Code) (p : Plan) (σ : St) (K : KT ρ) : Option ρ := iCode f90cG tab f90cB N c p σ K
noncomputable def f90cc1 := codeAt (bodyOf Try.f90) [0]
theorem f90ct1 {ρ : Type} (N : Nat) (s0 : List Int) (f1 : Unit) (K : KT ρ) : f90ci N f90cc1 .n (f90cs0 s0 f1) (joinK (some f90cl1) K) =
  slices_IndexFunc_int_int_Evaluate.Z1 N s0 f1 (fun s0 => K .nrm (f90cs1 s0)) := by kernel_rfl
noncomputable def f90cc4 := codeAt (bodyOf Try.f90) [1,0,0]
theorem f90ct4 {ρ : Type} (N : Nat) (s0 : List Int) (K : KT ρ) : f90ci N f90cc4 .n (f90cs1 s0) (joinK (some f90cl2) K) =
  slices_IndexFunc_int_int_Evaluate.Z4 N s0 (fun s0 t7 t8 => K .nrm (f90cs2 s0 t7 t8)) := by kernel_rfl
noncomputable def f90cc7 := codeAt (bodyOf Try.f90) [1,0,1,0,0]
theorem f90ct7 {ρ : Type} (N : Nat) (s0 : List Int) (t7 : Int) (t8 : Int) (K : KT ρ) : f90ci N f90cc7 .n (f90cs2 s0 t7 t8) (joinK (some f90cl2) K) =
  slices_IndexFunc_int_int_Evaluate.Z7 N s0 t7 t8 (fun s0 t7 t8 => K .nrm (f90cs2 s0 t7 t8)) (K (.exit 0) f90cs3) (fun t4 => K .ret (f90cs4 t4)) := by kernel_rfl
noncomputable def f90cc6 := codeAt (bodyOf Try.f90) [1,0,1,0]
noncomputable def f90cp6 : Plan := .mk none (some f90cl2) .n .n
noncomputable abbrev f90cw6 {ρ : Type} (N : Nat) (M : Nat) (σ : St) (K : KT ρ) : Option ρ := loopC (fun σ K => f90ci N f90cc7 .n σ K) f90cl2 M σ K
theorem f90ct6L {ρ : Type} (N : Nat) (K : KT ρ) : ∀ (M : Nat) (s0 : List Int) (t7 : Int) (t8 : Int), f90cw6 N M (f90cs2 s0 t7 t8) K =
  slices_IndexFunc_int_int_Evaluate.Z6L N (K (.exit 0) f90cs3) (fun t4 => K .ret (f90cs4 t4)) M s0 t7 t8
  | 0, _, _, _ => rfl
  | M + 1, s0, t7, t8 => viaRound (fun k => slices_IndexFunc_int_int_Evaluate.Z7 N s0 t7 t8 k (K (.exit 0) f90cs3) (fun t4 => K .ret (f90cs4 t4))) (f90ct7 N s0 t7 t8 (seqK (fun σ => f90cw6 N M σ K) K)) (funext fun s0 => funext fun t7 => funext fun t8 => f90ct6L N K M s0 t7 t8) (by kernel_rfl) (by kernel_rfl)
theorem f90ct6 {ρ : Type} (N : Nat) (s0 : List Int) (t7 : Int) (t8 : Int) (K : KT ρ) : f90ci N f90cc6 f90cp6 (f90cs2 s0 t7 t8) (joinK (some f90cl3) K) =
  slices_IndexFunc_int_int_Evaluate.Z6 N s0 t7 t8 (K (.exit 0) f90cs3) (fun t4 => K .ret (f90cs4 t4)) :=
  viaLoop (by kernel_rfl) (by kernel_rfl) (σ' := f90cs2 s0 t7 t8) (by kernel_rfl) (f90ct6L N (joinK (some f90cl3) K) N s0 t7 t8) (by kernel_rfl)
noncomputable def f90cc5 := codeAt (bodyOf Try.f90) [1,0,1]
noncomputable def f90cp5 : Plan := .mk (some f90cl3) none f90cp6 .n
theorem f90ct5 {ρ : Type} (N : Nat) (s0 : List Int) (t7 : Int) (t8 : Int) (K : KT ρ) : f90ci N f90cc5 f90cp5 (f90cs2 s0 t7 t8) (joinK (some f90cl3) K) =
  slices_IndexFunc_int_int_Evaluate.Z5 N s0 t7 t8 (K .nrm f90cs3) (fun t4 => K .ret (f90cs4 t4)) :=
  viaBlock (by kernel_rfl) (by kernel_rfl) (f90ct6 N s0 t7 t8 (blockK 0 (joinK (some f90cl3) K))) (by kernel_rfl)
noncomputable def f90cc3 := codeAt (bodyOf Try.f90) [1,0]
noncomputable def f90cp3 : Plan := .mk (some f90cl2) none .n f90cp5
theorem f90ct3 {ρ : Type} (N : Nat) (s0 : List Int) (K : KT ρ) : f90ci N f90cc3 f90cp3 (f90cs1 s0) (joinK (some f90cl3) K) =
  slices_IndexFunc_int_int_Evaluate.Z3 N s0 (K .nrm f90cs3) (fun t4 => K .ret (f90cs4 t4)) :=
  viaSeq (fun k => slices_IndexFunc_int_int_Evaluate.Z4 N s0 k) (by kernel_rfl) (by kernel_rfl) (f90ct4 N s0 (seqK (fun σ => f90ci N f90cc5 f90cp5 σ (joinK (some f90cl3) K)) (joinK (some f90cl3) K))) (funext fun s0 => funext fun t7 => funext fun t8 => f90ct5 N s0 t7 t8 K) (by kernel_rfl) (by kernel_rfl)
noncomputable def f90cc8 := codeAt (bodyOf Try.f90) [1,1]
theorem f90ct8 {ρ : Type} (N : Nat)  (K : KT ρ) : f90ci N f90cc8 .n f90cs3 (joinK (some f90clE) K) =
  slices_IndexFunc_int_int_Evaluate.Z8 N (fun t4 => K .ret (f90cs4 t4)) := by kernel_rfl
noncomputable def f90cc2 := codeAt (bodyOf Try.f90) [1]
noncomputable def f90cp2 : Plan := .mk (some f90cl3) none f90cp3 .n
theorem f90ct2 {ρ : Type} (N : Nat) (s0 : List Int) (K : KT ρ) : f90ci N f90cc2 f90cp2 (f90cs1 s0) (joinK (some f90clE) K) =
  slices_IndexFunc_int_int_Evaluate.Z2 N s0 (fun t4 => K .ret (f90cs4 t4)) :=
  viaSeq (fun k => slices_IndexFunc_int_int_Evaluate.Z3 N s0 k (fun t4 => K .ret (f90cs4 t4))) (by kernel_rfl) (by kernel_rfl) (f90ct3 N s0 (seqK (fun σ => f90ci N f90cc8 .n σ (joinK (some f90clE) K)) (joinK (some f90clE) K))) (f90ct8 N K) (by kernel_rfl) (by kernel_rfl)
noncomputable def f90cc0 := codeAt (bodyOf Try.f90) []
noncomputable def f90cp0 : Plan := .mk (some f90cl1) none .n f90cp2
theorem f90ct0 {ρ : Type} (N : Nat) (s0 : List Int) (f1 : Unit) (K : KT ρ) : f90ci N f90cc0 f90cp0 (f90cs0 s0 f1) (joinK (some f90clE) K) =
  slices_IndexFunc_int_int_Evaluate.Z0 N s0 f1 (fun t4 => K .ret (f90cs4 t4)) :=
  viaSeq (fun k => slices_IndexFunc_int_int_Evaluate.Z1 N s0 f1 k) (by kernel_rfl) (by kernel_rfl) (f90ct1 N s0 f1 (seqK (fun σ => f90ci N f90cc2 f90cp2 σ (joinK (some f90clE) K)) (joinK (some f90clE) K))) (funext fun s0 => f90ct2 N s0 K) (by kernel_rfl) (by kernel_rfl)
theorem f90cm (N : Nat) (s0 : List Int) (f1 : Unit) : f90ci N f90cc0 f90cp0 (f90cs0 s0 f1) (joinK (some f90clE) (finK tab f90csig Try.f90.results.toList)) = slices_IndexFunc_int_int_Evaluate.Z0 N s0 f1 (fun t4 => some ((), (t4, ()))) :=
  (f90ct0 N s0 f1 (finK tab f90csig Try.f90.results.toList)).trans (by kernel_rfl)
theorem f90cok (h : slices_IndexFunc_int_int_Evaluate.Spec) : EntryOk Try.prog 90 e90c :=
  entry_of_code (sig := f90csig) (c := f90cc0) (pl := f90cp0) (je := (some f90clE)) (B := f90cB) Try.func90 (by kernel_rfl) (by kernel_rfl) (by kernel_rfl) tabOk f90cGOk (by kernel_rfl) (by kernel_rfl) (by kernel_rfl) (by kernel_rfl) fun X hb hp => by
    obtain ⟨s0, f1, _⟩ := X
    obtain ⟨N, h⟩ := h s0 f1 hb.1
    exact ⟨N, (f90cm N s0 f1).trans (h N (Nat.le_refl N))⟩
theorem e90cok : EntryOk Try.prog 90 e90c := f90cok slices_IndexFunc_int_int_Evaluate.ok
end Go.Fw
set_option linter.unusedVariables false
set_option linter.unusedSimpArgs false
set_option maxRecDepth 100000
namespace Go.Fw
open Go.Proofs
/-! ### slices.ContainsFunc[[]int,int] -/
noncomputable def f73csig : Sig := ⟨[⟨.sl 3 (.int .i64), false, false⟩, ⟨.fnc 74, false, false⟩], [⟨.bool, false, false⟩]⟩
noncomputable def e73c : Entry := ⟨f73csig, none, fun X => ((), ((slices_ContainsFunc_int_int_Evaluate.g X.1 X.2.1), ()))⟩
noncomputable def f73cG : Nat → Option Entry := addG (fun _ => none) 90 e90c
theorem f73cGOk : GOk Try.prog f73cG := (GOk.nil).add e90cok (by kernel_rfl)
noncomputable def f73clE : Clean := ⟨[], [], [], [], []⟩
noncomputable def f73cs0 (s0 : List Int) (f1 : Unit) : St := initSt f73csig.ps (s0, (f1, ()))
noncomputable def f73cs1 (t4 : Bool) : St := stOf [(4, .c (.bool t4))] [] []
noncomputable def f73cl1 : Clean := ⟨[4], [], [], [], []⟩
noncomputable def f73cB : Nat → Option Clean := lookL [(1000000, f73cl1)]
noncomputable abbrev f73ci {ρ : Type} (N : Nat) (c : Code) (p : Plan) (σ : St) (K : KT ρ) : Option ρ := iCode f73cG tab f73cB N c p σ K
noncomputable def f73cc0 := codeAt (bodyOf Try.f73) []
theorem f73ct0 {ρ : Type} (N : Nat) (s0 : List Int) (f1 : Unit) (K : KT ρ) : f73ci N f73cc0 .n (f73cs0 s0 f1) (joinK (some f73clE) K) =
  slices_ContainsFunc_int_int_Evaluate.Z0 N s0 f1 (fun t4 => K .ret (f73cs1 t4)) := by kernel_rfl
theorem f73cm (N : Nat) (s0 : List Int) (f1 : Unit) : f73ci N f73cc0 .n (f73cs0 s0 f1) (joinK (some f73clE) (finK tab f73csig Try.f73.results.toList)) = slices_ContainsFunc_int_int_Evaluate.Z0 N s0 f1 (fun t4 => some ((), (t4, ()))) :=
  (f73ct0 N s0 f1 (finK tab f73csig Try.f73.results.toList)).trans (by kernel_rfl)
theorem f73cok (h : slices_ContainsFunc_int_int_Evaluate.Spec) : EntryOk Try.prog 73 e73c :=
  entry_of_code (sig := f73csig) (c := f73cc0) (pl := .n) (je := (some f73clE)) (B := f73cB) Try.func73 (by kernel_rfl) (by kernel_rfl) (by kernel_rfl) tabOk f73cGOk (by kernel_rfl) (by kernel_rfl) (by kernel_rfl) (by kernel_rfl) fun X hb hp => by
    obtain ⟨s0, f1, _⟩ := X
    obtain ⟨N, h⟩ := h s0 f1 hb.1
    exact ⟨N, (f73cm N s0 f1).trans (h N (Nat.le_refl N))⟩
theorem e73cok : EntryOk Try.prog 73 e73c := f73cok slices_ContainsFunc_int_int_Evaluate.ok
end Go.Fw
set_option linter.unusedVariables false
set_option linter.unusedSimpArgs false
set_option maxRecDepth 100000
namespace Go.Fw
open Go.Proofs
/-! ### loop.example/g03115/impl.inverse -/
noncomputable def f76sig : Sig := ⟨[⟨.int .i64, false, false⟩], [⟨.int .i64, false, false⟩]⟩
noncomputable def e76 : Entry := ⟨f76sig, (some fun X => impl_inverse.P X.1), fun X => ((), ((impl_inverse.g X.1), ()))⟩
noncomputable def f76G : Nat → Option Entry := (fun _ => none)
theorem f76GOk : GOk Try.prog f76G := GOk.nil
noncomputable def f76lE : Clean := ⟨[], [], [], [], []⟩
noncomputable def f76s0 (x0 : Int) : St := initSt f76sig.ps (x0, ())
noncomputable def f76s1 (x0 : Int) : St := stOf [(0, .c (.int .i64 x0))] [] []
noncomputable def f76l1 : Clean := ⟨[0], [], [], [], []⟩
noncomputable def f76s2 (out3 : Int) (base4 : Int) : St := stOf [(3, .c (.int .i64 out3)), (4, .c (.int .i64 base4))] [] []
noncomputable def f76l2 : Clean := ⟨[3, 4], [], [], [], []⟩
noncomputable def f76s3 (out3 : Int) (base4 : Int) (n5 : Int) : St := stOf [(3, .c (.int .i64 out3)), (4, .c (.int .i64 base4)), (5, .c (.int .i64 n5))] [] []
noncomputable def f76l3 : Clean := ⟨[3, 4, 5], [], [], [], []⟩
noncomputable def f76s4 (out3 : Int) : St := stOf [(3, .c (.int .i64 out3))] [] []
noncomputable def f76l4 : Clean := ⟨[3], [], [], [], []⟩
noncomputable def f76s5 (t2 : Int) : St := stOf [(2, .c (.int .i64 t2))] [] []
noncomputable def f76l5 : Clean := ⟨[2], [], [], [], []⟩
noncomputable def f76B : Nat → Option Clean := lookL [(0, f76l4), (1000000, f76l5)]
noncomputable abbrev f76i {ρ : Type} (N : Nat) (c : Code) (p : Plan) (σ : St) (K : KT ρ) : Option ρ := iCode f76G tab f76B N c p σ K
noncomputable def f76c1 := codeAt (bodyOf Try.f76) [0]
theorem f76t1 {ρ : Type} (N : Nat) (x0 : Int) (K : KT ρ) : f76i N f76c1 .n (f76s0 x0) (joinK (some f76l1) K) =
  impl_inverse.Z1 N x0 (fun x0 => K .nrm (f76s1 x0)) := by kernel_rfl
noncomputable def f76c3 := codeAt (bodyOf Try.f76) [1,0]
theorem f76t3 {ρ : Type} (N : Nat) (x0 : Int) (K : KT ρ) : f76i N f76c3 .n (f76s1 x0) (joinK (some f76l2) K) =
  impl_inverse.Z3 N x0 (fun out3 base4 => K .nrm (f76s2 out3 base4)) := by kernel_rfl
noncomputable def f76c6 := codeAt (bodyOf Try.f76) [1,1,0,0]
theorem f76t6 {ρ : Type} (N : Nat) (out3 : Int) (base4 : Int) (K : KT ρ) : f76i N f76c6 .n (f76s2 out3 base4) (joinK (some f76l3) K) =
  impl_inverse.Z6 N out3 base4 (fun out3 base4 n5 => K .nrm (f76s3 out3 base4 n5)) := by kernel_rfl
noncomputable def f76c9 := codeAt (bodyOf Try.f76) [1,1,0,1,0,0]
theorem f76t9 {ρ : Type} (N : Nat) (out3 : Int) (base4 : Int) (n5 : Int) (K : KT ρ) : f76i N f76c9 .n (f76s3 out3 base4 n5) (joinK (some f76l3) K) =
  impl_inverse.Z9 N out3 base4 n5 (fun out3 base4 n5 => K .nrm (f76s3 out3 base4 n5)) (fun out3 => K (.exit 0) (f76s4 out3)) := by kernel_rfl
noncomputable def f76c8 := codeAt (bodyOf Try.f76) [1,1,0,1,0]
noncomputable def f76p8 : Plan := .mk none (some f76l3) .n .n
noncomputable abbrev f76w8 {ρ : Type} (N : Nat) (M : Nat) (σ : St) (K : KT ρ) : Option ρ := loopC (fun σ K => f76i N f76c9 .n σ K) f76l3 M σ K
theorem f76t8L {ρ : Type} (N : Nat) (K : KT ρ) : ∀ (M : Nat) (out3 : Int) (base4 : Int) (n5 : Int), f76w8 N M (f76s3 out3 base4 n5) K =
  impl_inverse.Z8L N (fun out3 => K (.exit 0) (f76s4 out3)) M out3 base4 n5
  | 0, _, _, _ => rfl
  | M + 1, out3, base4, n5 => viaRound (fun k => impl_inverse.Z9 N out3 base4 n5 k (fun out3 => K (.exit 0) (f76s4 out3))) (f76t9 N out3 base4 n5 (seqK (fun σ => f76w8 N M σ K) K)) (funext fun out3 => funext fun base4 => funext fun n5 => f76t8L N K M out3 base4 n5) (by kernel_rfl) (by kernel_rfl)
theorem f76t8 {ρ : Type} (N : Nat) (out3 : Int) (base4 : Int) (n5 : Int) (K : KT ρ) : f76i N f76c8 f76p8 (f76s3 out3 base4 n5) (joinK (some f76l4) K) =
  impl_inverse.Z8 N out3 base4 n5 (fun out3 => K (.exit 0) (f76s4 out3)) :=
  viaLoop (by kernel_rfl) (by kernel_rfl) (σ' := f76s3 out3 base4 n5) (by kernel_rfl) (f76t8L N (joinK (some f76l4) K) N out3 base4 n5) (by kernel_rfl)
noncomputable def f76c7 := codeAt (bodyOf Try.f76) [1,1,0,1]
noncomputable def f76p7 : Plan := .mk (some f76l4) none f76p8 .n
theorem f76t7 {ρ : Type} (N : Nat) (out3 : Int) (base4 : Int) (n5 : Int) (K : KT ρ) : f76i N f76c7 f76p7 (f76s3 out3 base4 n5) (joinK (some f76l4) K) =
  impl_inverse.Z7 N out3 base4 n5 (fun out3 => K .nrm (f76s4 out3)) :=
  viaBlock (by kernel_rfl) (by kernel_rfl) (f76t8 N out3 base4 n5 (blockK 0 (joinK (some f76l4) K))) (by kernel_rfl)
noncomputable def f76c5 := codeAt (bodyOf Try.f76) [1,1,0]
noncomputable def f76p5 : Plan := .mk (some f76l3) none .n f76p7
theorem f76t5 {ρ : Type} (N : Nat) (out3 : Int) (base4 : Int) (K : KT ρ) : f76i N f76c5 f76p5 (f76s2 out3 base4) (joinK (some f76l4) K) =
  impl_inverse.Z5 N out3 base4 (fun out3 => K .nrm (f76s4 out3)) :=
  viaSeq (fun k => impl_inverse.Z6 N out3 base4 k) (by kernel_rfl) (by kernel_rfl) (f76t6 N out3 base4 (seqK (fun σ => f76i N f76c7 f76p7 σ (joinK (some f76l4) K)) (joinK (some f76l4) K))) (funext fun out3 => funext fun base4 => funext fun n5 => f76t7 N out3 base4 n5 K) (by kernel_rfl) (by kernel_rfl)
noncomputable def f76c10 := codeAt (bodyOf Try.f76) [1,1,1]
theorem f76t10 {ρ : Type} (N : Nat) (out3 : Int) (K : KT ρ) : f76i N f76c10 .n (f76s4 out3) (joinK (some f76lE) K) =
  impl_inverse.Z10 N out3 (fun t2 => K .ret (f76s5 t2)) := by kernel_rfl
noncomputable def f76c4 := codeAt (bodyOf Try.f76) [1,1]
noncomputable def f76p4 : Plan := .mk (some f76l4) none f76p5 .n
theorem f76t4 {ρ : Type} (N : Nat) (out3 : Int) (base4 : Int) (K : KT ρ) : f76i N f76c4 f76p4 (f76s2 out3 base4) (joinK (some f76lE) K) =
  impl_inverse.Z4 N out3 base4 (fun t2 => K .ret (f76s5 t2)) :=
  viaSeq (fun k => impl_inverse.Z5 N out3 base4 k) (by kernel_rfl) (by kernel_rfl) (f76t5 N out3 base4 (seqK (fun σ => f76i N f76c10 .n σ (joinK (some f76lE) K)) (joinK (some f76lE) K))) (funext fun out3 => f76t10 N out3 K) (by kernel_rfl) (by kernel_rfl)
noncomputable def f76c2 := codeAt (bodyOf Try.f76) [1]
noncomputable def f76p2 : Plan := .mk (some f76l2) none .n f76p4
theorem f76t2 {ρ : Type} (N : Nat) (x0 : Int) (K : KT ρ) : f76i N f76c2 f76p2 (f76s1 x0) (joinK (some f76lE) K) =
  impl_inverse.Z2 N x0 (fun t2 => K .ret (f76s5 t2)) :=
  viaSeq (fun k => impl_inverse.Z3 N x0 k) (by kernel_rfl) (by kernel_rfl) (f76t3 N x0 (seqK (fun σ => f76i N f76c4 f76p4 σ (joinK (some f76lE) K)) (joinK (some f76lE) K))) (funext fun out3 => funext fun base4 => f76t4 N out3 base4 K) (by kernel_rfl) (by kernel_rfl)
noncomputable def f76c0 := codeAt (bodyOf Try.f76) []
noncomputable def f76p0 : Plan := .mk (some f76l1) none .n f76p2
theorem f76t0 {ρ : Type} (N : Nat) (x0 : Int) (K : KT ρ) : f76i N f76c0 f76p0 (f76s0 x0) (joinK (some f76lE) K) =
  impl_inverse.Z0 N x0 (fun t2 => K .ret (f76s5 t2)) :=
  viaSeq (fun k => impl_inverse.Z1 N x0 k) (by kernel_rfl) (by kernel_rfl) (f76t1 N x0 (seqK (fun σ => f76i N f76c2 f76p2 σ (joinK (some f76lE) K)) (joinK (some f76lE) K))) (funext fun x0 => f76t2 N x0 K) (by kernel_rfl) (by kernel_rfl)
theorem f76m (N : Nat) (x0 : Int) : f76i N f76c0 f76p0 (f76s0 x0) (joinK (some f76lE) (finK tab f76sig Try.f76.results.toList)) = impl_inverse.Z0 N x0 (fun t2 => some ((), (t2, ()))) :=
  (f76t0 N x0 (finK tab f76sig Try.f76.results.toList)).trans (by kernel_rfl)
theorem f76ok (h : impl_inverse.Spec) : EntryOk Try.prog 76 e76 :=
  entry_of_code (sig := f76sig) (c := f76c0) (pl := f76p0) (je := (some f76lE)) (B := f76B) Try.func76 (by kernel_rfl) (by kernel_rfl) (by kernel_rfl) tabOk f76GOk (by kernel_rfl) (by kernel_rfl) (by kernel_rfl) (by kernel_rfl) fun X hb hp => by
    obtain ⟨x0, _⟩ := X
    obtain ⟨N, h⟩ := h x0 hp
    exact ⟨N, (f76m N x0).trans (h N (Nat.le_refl N))⟩
theorem e76ok : EntryOk Try.prog 76 e76 := f76ok impl_inverse.ok
end Go.Fw
set_option linter.unusedVariables false
set_option linter.unusedSimpArgs false
set_option maxRecDepth 100000
namespace Go.Fw
open Go.Proofs
/-! ### loop.example/g03115/impl.powerOf -/
noncomputable def f77sig : Sig := ⟨[⟨.int .i64, false, false⟩, ⟨.int .i64, false, false⟩], [⟨.int .i64, false, false⟩]⟩
noncomputable def e77 : Entry := ⟨f77sig, (some fun X => impl_powerOf.P X.1 X.2.1), fun X => ((), ((impl_powerOf.g X.1 X.2.1), ()))⟩
noncomputable def f77G : Nat → Option Entry := (fun _ => none)
theorem f77GOk : GOk Try.prog f77G := GOk.nil
noncomputable def f77lE : Clean := ⟨[], [], [], [], []⟩
noncomputable def f77s0 (x0 : Int) (n1 : Int) : St := initSt f77sig.ps (x0, (n1, ()))
noncomputable def f77s1 (x0 : Int) (n1 : Int) : St := stOf [(0, .c (.int .i64 x0)), (1, .c (.int .i64 n1))] [] []
noncomputable def f77l1 : Clean := ⟨[0, 1], [], [], [], []⟩
noncomputable def f77s2 (x0 : Int) (n1 : Int) (out5 : Int) : St := stOf [(0, .c (.int .i64 x0)), (1, .c (.int .i64 n1)), (5, .c (.int .i64 out5))] [] []
noncomputable def f77l2 : Clean := ⟨[0, 1, 5], [], [], [], []⟩
noncomputable def f77s3 (out5 : Int) : St := stOf [(5, .c (.int .i64 out5))] [] []
noncomputable def f77l3 : Clean := ⟨[5], [], [], [], []⟩
noncomputable def f77s4 (t4 : Int) : St := stOf [(4, .c (.int .i64 t4))] [] []
noncomputable def f77l4 : Clean := ⟨[4], [], [], [], []⟩
noncomputable def f77B : Nat → Option Clean := lookL [(0, f77l3), (1000000, f77l4)]
noncomputable abbrev f77i {ρ : Type} (N : Nat) (c : Code) (p : Plan) (σ : St) (K : KT ρ) : Option ρ := iCode f77G tab f77B N c p σ K
noncomputable def f77c1 := codeAt (bodyOf Try.f77) [0]
theorem f77t1 {ρ : Type} (N : Nat) (x0 : Int) (n1 : Int) (K : KT ρ) : f77i N f77c1 .n (f77s0 x0 n1) (joinK (some f77l1) K) =
  impl_powerOf.Z1 N x0 n1 (fun x0 n1 => K .nrm (f77s1 x0 n1)) := by kernel_rfl
noncomputable def f77c3 := codeAt (bodyOf Try.f77) [1,0]
theorem f77t3 {ρ : Type} (N : Nat) (x0 : Int) (n1 : Int) (K : KT ρ) : f77i N f77c3 .n (f77s1 x0 n1) (joinK (some f77l2) K) =
  impl_powerOf.Z3 N x0 n1 (fun x0 n1 out5 => K .nrm (f77s2 x0 n1 out5)) := by kernel_rfl
noncomputable def f77c7 := codeAt (bodyOf Try.f77) [1,1,0,0,0]
theorem f77t7 {ρ : Type} (N : Nat) (x0 : Int) (n1 : Int) (out5 : Int) (K : KT ρ) : f77i N f77c7 .n (f77s2 x0 n1 out5) (joinK (some f77l2) K) =
  impl_powerOf.Z7 N x0 n1 out5 (fun x0 n1 out5 => K .nrm (f77s2 x0 n1 out5)) (fun out5 => K (.exit 0) (f77s3 out5)) := by kernel_rfl
noncomputable def f77c6 := codeAt (bodyOf Try.f77) [1,1,0,0]
noncomputable def f77p6 : Plan := .mk none (some f77l2) .n .n
noncomputable abbrev f77w6 {ρ : Type} (N : Nat) (M : Nat) (σ : St) (K : KT ρ) : Option ρ := loopC (fun σ K => f77i N f77c7 .n σ K) f77l2 M σ K
theorem f77t6L {ρ : Type} (N : Nat) (K : KT ρ) : ∀ (M : Nat) (x0 : Int) (n1 : Int) (out5 : Int), f77w6 N M (f77s2 x0 n1 out5) K =
  impl_powerOf.Z6L N (fun out5 => K (.exit 0) (f77s3 out5)) M x0 n1 out5
  | 0, _, _, _ => rfl
  | M + 1, x0, n1, out5 => viaRound (fun k => impl_powerOf.Z7 N x0 n1 out5 k (fun out5 => K (.exit 0) (f77s3 out5))) (f77t7 N x0 n1 out5 (seqK (fun σ => f77w6 N M σ K) K)) (funext fun x0 => funext fun n1 => funext fun out5 => f77t6L N K M x0 n1 out5) (by kernel_rfl) (by kernel_rfl)
theorem f77t6 {ρ : Type} (N : Nat) (x0 : Int) (n1 : Int) (out5 : Int) (K : KT ρ) : f77i N f77c6 f77p6 (f77s2 x0 n1 out5) (joinK (some f77l3) K) =
  impl_powerOf.Z6 N x0 n1 out5 (fun out5 => K (.exit 0) (f77s3 out5)) :=
  viaLoop (by kernel_rfl) (by kernel_rfl) (σ' := f77s2 x0 n1 out5) (by kernel_rfl) (f77t6L N (joinK (some f77l3) K) N x0 n1 out5) (by kernel_rfl)
noncomputable def f77c5 := codeAt (bodyOf Try.f77) [1,1,0]
noncomputable def f77p5 : Plan := .mk (some f77l3) none f77p6 .n
theorem f77t5 {ρ : Type} (N : Nat) (x0 : Int) (n1 : Int) (out5 : Int) (K : KT ρ) : f77i N f77c5 f77p5 (f77s2 x0 n1 out5) (joinK (some f77l3) K) =
  impl_powerOf.Z5 N x0 n1 out5 (fun out5 => K .nrm (f77s3 out5)) :=
  viaBlock (by kernel_rfl) (by kernel_rfl) (f77t6 N x0 n1 out5 (blockK 0 (joinK (some f77l3) K))) (by kernel_rfl)
noncomputable def f77c8 := codeAt (bodyOf Try.f77) [1,1,1]
theorem f77t8 {ρ : Type} (N : Nat) (out5 : Int) (K : KT ρ) : f77i N f77c8 .n (f77s3 out5) (joinK (some f77lE) K) =
  impl_powerOf.Z8 N out5 (fun t4 => K .ret (f77s4 t4)) := by kernel_rfl
noncomputable def f77c4 := codeAt (bodyOf Try.f77) [1,1]
noncomputable def f77p4 : Plan := .mk (some f77l3) none f77p5 .n
theorem f77t4 {ρ : Type} (N : Nat) (x0 : Int) (n1 : Int) (out5 : Int) (K : KT ρ) : f77i N f77c4 f77p4 (f77s2 x0 n1 out5) (joinK (some f77lE) K) =
  impl_powerOf.Z4 N x0 n1 out5 (fun t4 => K .ret (f77s4 t4)) :=
  viaSeq (fun k => impl_powerOf.Z5 N x0 n1 out5 k) (by kernel_rfl) (by kernel_rfl) (f77t5 N x0 n1 out5 (seqK (fun σ => f77i N f77c8 .n σ (joinK (some f77lE) K)) (joinK (some f77lE) K))) (funext fun out5 => f77t8 N out5 K) (by kernel_rfl) (by kernel_rfl)
noncomputable def f77c2 := codeAt (bodyOf Try.f77) [1]
noncomputable def f77p2 : Plan := .mk (some f77l2) none .n f77p4
theorem f77t2 {ρ : Type} (N : Nat) (x0 : Int) (n1 : Int) (K : KT ρ) : f77i N f77c2 f77p2 (f77s1 x0 n1) (joinK (some f77lE) K) =
  impl_powerOf.Z2 N x0 n1 (fun t4 => K .ret (f77s4 t4)) :=
  viaSeq (fun k => impl_powerOf.Z3 N x0 n1 k) (by kernel_rfl) (by kernel_rfl) (f77t3 N x0 n1 (seqK (fun σ => f77i N f77c4 f77p4 σ (joinK (some f77lE) K)) (joinK (some f77lE) K))) (funext fun x0 => funext fun n1 => funext fun out5 => f77t4 N x0 n1 out5 K) (by kernel_rfl) (by kernel_rfl)
noncomputable def f77c0 := codeAt (bodyOf Try.f77) []
noncomputable def f77p0 : Plan := .mk (some f77l1) none .n f77p2
theorem f77t0 {ρ : Type} (N : Nat) (x0 : Int) (n1 : Int) (K : KT ρ) : f77i N f77c0 f77p0 (f77s0 x0 n1) (joinK (some f77lE) K) =
  impl_powerOf.Z0 N x0 n1 (fun t4 => K .ret (f77s4 t4)) :=
  viaSeq (fun k => impl_powerOf.Z1 N x0 n1 k) (by kernel_rfl) (by kernel_rfl) (f77t1 N x0 n1 (seqK (fun σ => f77i N f77c2 f77p2 σ (joinK (some f77lE) K)) (joinK (some f77lE) K))) (funext fun x0 => funext fun n1 => f77t2 N x0 n1 K) (by kernel_rfl) (by kernel_rfl)
theorem f77m (N : Nat) (x0 : Int) (n1 : Int) : f77i N f77c0 f77p0 (f77s0 x0 n1) (joinK (some f77lE) (finK tab f77sig Try.f77.results.toList)) = impl_powerOf.Z0 N x0 n1 (fun t4 => some ((), (t4, ()))) :=
  (f77t0 N x0 n1 (finK tab f77sig Try.f77.results.toList)).trans (by kernel_rfl)
theorem f77ok (h : impl_powerOf.Spec) : EntryOk Try.prog 77 e77 :=
  entry_of_code (sig := f77sig) (c := f77c0) (pl := f77p0) (je := (some f77lE)) (B := f77B) Try.func77 (by kernel_rfl) (by kernel_rfl) (by kernel_rfl) tabOk f77GOk (by kernel_rfl) (by kernel_rfl) (by kernel_rfl) (by kernel_rfl) fun X hb hp => by
    obtain ⟨x0, n1, _⟩ := X
    obtain ⟨N, h⟩ := h x0 n1 hp
    exact ⟨N, (f77m N x0 n1).trans (h N (Nat.le_refl N))⟩
theorem e77ok : EntryOk Try.prog 77 e77 := f77ok impl_powerOf.ok
end Go.Fw
set_option linter.unusedVariables false
set_option linter.unusedSimpArgs false
set_option maxRecDepth 100000
namespace Go.Fw
open Go.Proofs
/-! ### loop.example/g03115/impl.EvaluateLaurent -/
noncomputable def f47sig : Sig := ⟨[⟨.pair (.int .i64) (.sl 59 (.pair (.sl 3 (.int .i64)) (.int .i64))), true, false⟩, ⟨.sl 3 (.int .i64), false, false⟩], [⟨.int .i64, false, false⟩]⟩
noncomputable def e47 : Entry := ⟨f47sig, none, fun X => ((), ((impl_EvaluateLaurent.g X.1 X.2.1), ()))⟩
noncomputable def f47G : Nat → Option Entry := addG (addG (addG (addG (addG (fun _ => none) 27 e27) 73 e73c) 75 e75) 76 e76) 77 e77
theorem f47GOk : GOk Try.prog f47G := (((((GOk.nil).add e27ok (by kernel_rfl)).add e73cok (by kernel_rfl)).add e75ok (by kernel_rfl)).add e76ok (by kernel_rfl)).add e77ok (by kernel_rfl)
noncomputable def f47lE : Clean := ⟨[], [], [], [], []⟩
noncomputable def f47s0 (f0 : Int × List (List Int × Int)) (values1 : List Int) : St := initSt f47sig.ps (f0, (values1, ()))
noncomputable def f47s1 (values1 : List Int) (f2_0 : Int) (f2_1 : List (List Int × Int)) : St := stOf [(1, .c (.sn 3 (.int .i64) values1 none)), (2, .c (.box 2 0))] [(2, (25, [.int .i64 f2_0, .sn 59 (.pair (.sl 3 (.int .i64)) (.int .i64)) f2_1 none]))] []
noncomputable def f47l1 : Clean := ⟨[1, 2], [2], [], [], []⟩
noncomputable def f47s2 (values1 : List Int) (sum5 : Int) (f2_0 : Int) (f2_1 : List (List Int × Int)) : St := stOf [(1, .c (.sn 3 (.int .i64) values1 none)), (2, .c (.box 2 0)), (5, .c (.int .i64 sum5))] [(2, (25, [.int .i64 f2_0, .sn 59 (.pair (.sl 3 (.int .i64)) (.int .i64)) f2_1 none]))] []
noncomputable def f47l2 : Clean := ⟨[1, 2, 5], [2], [], [], []⟩
noncomputable def f47s3 (values1 : List Int) (sum5 : Int) (t27 : List (List Int × Int)) (t28 : Int) (t29 : Int) : St := stOf [(1, .c (.sn 3 (.int .i64) values1 none)), (5, .c (.int .i64 sum5)), (27, .c (.sn 59 (.pair (.sl 3 (.int .i64)) (.int .i64)) t27 none)), (28, .c (.int .i64 t28)), (29, .c (.int .i64 t29))] [] []
noncomputable def f47l3 : Clean := ⟨[1, 5, 27, 28, 29], [], [], [], []⟩
noncomputable def f47s4 (values1 : List Int) (sum5 : Int) (t27 : List (List Int × Int)) (t28 : Int) (t29 : Int) (t30 : Bool) : St := stOf [(1, .c (.sn 3 (.int .i64) values1 none)), (5, .c (.int .i64 sum5)), (27, .c (.sn 59 (.pair (.sl 3 (.int .i64)) (.int .i64)) t27 none)), (28, .c (.int .i64 t28)), (29, .c (.int .i64 t29)), (30, .c (.bool t30))] [] []
noncomputable def f47l4 : Clean := ⟨[1, 5, 27, 28, 29, 30], [], [], [], []⟩
noncomputable def f47s5 (values1 : List Int) (sum5 : Int) (t27 : List (List Int × Int)) (t28 : Int) (t29 : Int) (t7_0 : List Int) (t7_1 : Int) : St := stOf [(1, .c (.sn 3 (.int .i64) values1 none)), (5, .c (.int .i64 sum5)), (7, .c (.box 7 0)), (27, .c (.sn 59 (.pair (.sl 3 (.int .i64)) (.int .i64)) t27 none)), (28, .c (.int .i64 t28)), (29, .c (.int .i64 t29))] [(7, (59, [.sn 3 (.int .i64) t7_0 none, .int .i64 t7_1]))] []
noncomputable def f47l5 : Clean := ⟨[1, 5, 7, 27, 28, 29], [7], [], [], []⟩
noncomputable def f47s6 (values1 : List Int) (sum5 : Int) (p8 : Int) (t27 : List (List Int × Int)) (t28 : Int) (t29 : Int) (t7_0 : List Int) (t7_1 : Int) : St := stOf [(1, .c (.sn 3 (.int .i64) values1 none)), (5, .c (.int .i64 sum5)), (7, .c (.box 7 0)), (8, .c (.int .i64 p8)), (27, .c (.sn 59 (.pair (.sl 3 (.int .i64)) (.int .i64)) t27 none)), (28, .c (.int .i64 t28)), (29, .c (.int .i64 t29))] [(7, (59, [.sn 3 (.int .i64) t7_0 none, .int .i64 t7_1]))] []
noncomputable def f47l6 : Clean := ⟨[1, 5, 7, 8, 27, 28, 29], [7], [], [], []⟩
noncomputable def f47s7 (values1 : List Int) (sum5 : Int) (p8 : Int) (t27 : List (List Int × Int)) (t28 : Int) (t29 : Int) (t37 : List Int) (t38 : Int) (t39 : Int) : St := stOf [(1, .c (.sn 3 (.int .i64) values1 none)), (5, .c (.int .i64 sum5)), (8, .c (.int .i64 p8)), (27, .c (.sn 59 (.pair (.sl 3 (.int .i64)) (.int .i64)) t27 none)), (28, .c (.int .i64 t28)), (29, .c (.int .i64 t29)), (37, .c (.sn 3 (.int .i64) t37 none)), (38, .c (.int .i64 t38)), (39, .c (.int .i64 t39))] [] []
noncomputable def f47l7 : Clean := ⟨[1, 5, 8, 27, 28, 29, 37, 38, 39], [], [], [], []⟩
noncomputable def f47s8 (values1 : List Int) (sum5 : Int) (p8 : Int) (t27 : List (List Int × Int)) (t28 : Int) (t29 : Int) : St := stOf [(1, .c (.sn 3 (.int .i64) values1 none)), (5, .c (.int .i64 sum5)), (8, .c (.int .i64 p8)), (27, .c (.sn 59 (.pair (.sl 3 (.int .i64)) (.int .i64)) t27 none)), (28, .c (.int .i64 t28)), (29, .c (.int .i64 t29))] [] []
noncomputable def f47l8 : Clean := ⟨[1, 5, 8, 27, 28, 29], [], [], [], []⟩
noncomputable def f47s9 (sum5 : Int) : St := stOf [(5, .c (.int .i64 sum5))] [] []
noncomputable def f47l9 : Clean := ⟨[5], [], [], [], []⟩
noncomputable def f47s10 (t4 : Int) : St := stOf [(4, .c (.int .i64 t4))] [] []
noncomputable def f47l10 : Clean := ⟨[4], [], [], [], []⟩
noncomputable def f47B : Nat → Option Clean := lookL [(2, f47l8), (1, f47l3), (0, f47l9), (1000000, f47l10)]
noncomputable abbrev f47i {ρ : Type} (N : Nat) (c : Code) (p : Plan) (σ : St) (K : KT ρ) : Option ρ := iCode f47G tab f47B N c p σ K
noncomputable def f47c1 := codeAt (bodyOf Try.f47) [0]
theorem f47t1 {ρ : Type} (N : Nat) (f0 : Int × List (List Int × Int)) (values1 : List Int) (K : KT ρ) : f47i N f47c1 .n (f47s0 f0 values1) (joinK (some f47l1) K) =
  impl_EvaluateLaurent.Z1 N f0 values1 (fun values1 f2_0 f2_1 => K .nrm (f47s1 values1 f2_0 f2_1)) := by kernel_rfl
noncomputable def f47c3 := codeAt (bodyOf Try.f47) [1,0]
theorem f47t3 {ρ : Type} (N : Nat) (values1 : List Int) (f2_0 : Int) (f2_1 : List (List Int × Int)) (K : KT ρ) : f47i N f47c3 .n (f47s1 values1 f2_0 f2_1) (joinK (some f47l1) K) =
  impl_EvaluateLaurent.Z3 N values1 f2_0 f2_1 (fun values1 f2_0 f2_1 => K .nrm (f47s1 values1 f2_0 f2_1)) (fun t4 => K .ret (f47s10 t4)) := by kernel_rfl
noncomputable def f47c5 := codeAt (bodyOf Try.f47) [1,1,0]
theorem f47t5 {ρ : Type} (N : Nat) (values1 : List Int) (f2_0 : Int) (f2_1 : List (List Int × Int)) (K : KT ρ) : f47i N f47c5 .n (f47s1 values1 f2_0 f2_1) (joinK (some f47l2) K) =
  impl_EvaluateLaurent.Z5 N values1 f2_0 f2_1 (fun values1 sum5 f2_0 f2_1 => K .nrm (f47s2 values1 sum5 f2_0 f2_1)) := by kernel_rfl
noncomputable def f47c8 := codeAt (bodyOf Try.f47) [1,1,1,0,0]
theorem f47t8 {ρ : Type} (N : Nat) (values1 : List Int) (sum5 : Int) (f2_0 : Int) (f2_1 : List (List Int × Int)) (K : KT ρ) : f47i N f47c8 .n (f47s2 values1 sum5 f2_0 f2_1) (joinK (some f47l3) K) =
  impl_EvaluateLaurent.Z8 N values1 sum5 f2_0 f2_1 (fun values1 sum5 t27 t28 t29 => K .nrm (f47s3 values1 sum5 t27 t28 t29)) := by kernel_rfl
noncomputable def f47c12 := codeAt (bodyOf Try.f47) [1,1,1,0,1,0,0,0]
theorem f47t12 {ρ : Type} (N : Nat) (values1 : List Int) (sum5 : Int) (t27 : List (List Int × Int)) (t28 : Int) (t29 : Int) (K : KT ρ) : f47i N f47c12 .n (f47s3 values1 sum5 t27 t28 t29) (joinK (some f47l4) K) =
  impl_EvaluateLaurent.Z12 N values1 sum5 t27 t28 t29 (fun values1 sum5 t27 t28 t29 t30 => K .nrm (f47s4 values1 sum5 t27 t28 t29 t30)) := by kernel_rfl
noncomputable def f47c14 := codeAt (bodyOf Try.f47) [1,1,1,0,1,0,0,1,0]
theorem f47t14 {ρ : Type} (N : Nat) (values1 : List Int) (sum5 : Int) (t27 : List (List Int × Int)) (t28 : Int) (t29 : Int) (t30 : Bool) (K : KT ρ) : f47i N f47c14 .n (f47s4 values1 sum5 t27 t28 t29 t30) (joinK (some f47l3) K) =
  impl_EvaluateLaurent.Z14 N values1 sum5 t27 t28 t29 t30 (fun values1 sum5 t27 t28 t29 => K .nrm (f47s3 values1 sum5 t27 t28 t29)) (fun sum5 => K (.exit 0) (f47s9 sum5)) := by kernel_rfl
noncomputable def f47c18 := codeAt (bodyOf Try.f47) [1,1,1,0,1,0,0,1,1,0,0,0]
theorem f47t18 {ρ : Type} (N : Nat) (values1 : List Int) (sum5 : Int) (t27 : List (List Int × Int)) (t28 : Int) (t29 : Int) (K : KT ρ) : f47i N f47c18 .n (f47s3 values1 sum5 t27 t28 t29) (joinK (some f47l5) K) =
  impl_EvaluateLaurent.Z18 N values1 sum5 t27 t28 t29 (fun values1 sum5 t27 t28 t29 t7_0 t7_1 => K .nrm (f47s5 values1 sum5 t27 t28 t29 t7_0 t7_1)) := by kernel_rfl
noncomputable def f47c20 := codeAt (bodyOf Try.f47) [1,1,1,0,1,0,0,1,1,0,0,1,0]
theorem f47t20 {ρ : Type} (N : Nat) (values1 : List Int) (sum5 : Int) (t27 : List (List Int × Int)) (t28 : Int) (t29 : Int) (t7_0 : List Int) (t7_1 : Int) (K : KT ρ) : f47i N f47c20 .n (f47s5 values1 sum5 t27 t28 t29 t7_0 t7_1) (joinK (some f47l6) K) =
  impl_EvaluateLaurent.Z20 N values1 sum5 t27 t28 t29 t7_0 t7_1 (fun values1 sum5 p8 t27 t28 t29 t7_0 t7_1 => K .nrm (f47s6 values1 sum5 p8 t27 t28 t29 t7_0 t7_1)) := by kernel_rfl
noncomputable def f47c23 := codeAt (bodyOf Try.f47) [1,1,1,0,1,0,0,1,1,0,0,1,1,0,0]
theorem f47t23 {ρ : Type} (N : Nat) (values1 : List Int) (sum5 : Int) (p8 : Int) (t27 : List (List Int × Int)) (t28 : Int) (t29 : Int) (t7_0 : List Int) (t7_1 : Int) (K : KT ρ) : f47i N f47c23 .n (f47s6 values1 sum5 p8 t27 t28 t29 t7_0 t7_1) (joinK (some f47l7) K) =
  impl_EvaluateLaurent.Z23 N values1 sum5 p8 t27 t28 t29 t7_0 t7_1 (fun values1 sum5 p8 t27 t28 t29 t37 t38 t39 => K .nrm (f47s7 values1 sum5 p8 t27 t28 t29 t37 t38 t39)) := by kernel_rfl
noncomputable def f47c26 := codeAt (bodyOf Try.f47) [1,1,1,0,1,0,0,1,1,0,0,1,1,0,1,0,0]
theorem f47t26 {ρ : Type} (N : Nat) (values1 : List Int) (sum5 : Int) (p8 : Int) (t27 : List (List Int × Int)) (t28 : Int) (t29 : Int) (t37 : List Int) (t38 : Int) (t39 : Int) (K : KT ρ) : f47i N f47c26 .n (f47s7 values1 sum5 p8 t27 t28 t29 t37 t38 t39) (joinK (some f47l7) K) =
  impl_EvaluateLaurent.Z26 N values1 sum5 p8 t27 t28 t29 t37 t38 t39 (fun values1 sum5 p8 t27 t28 t29 t37 t38 t39 => K .nrm (f47s7 values1 sum5 p8 t27 t28 t29 t37 t38 t39)) (fun values1 sum5 p8 t27 t28 t29 => K (.exit 2) (f47s8 values1 sum5 p8 t27 t28 t29)) := by kernel_rfl
noncomputable def f47c25 := codeAt (bodyOf Try.f47) [1,1,1,0,1,0,0,1,1,0,0,1,1,0,1,0]
noncomputable def f47p25 : Plan := .mk none (some f47l7) .n .n
noncomputable abbrev f47w25 {ρ : Type} (N : Nat) (M : Nat) (σ : St) (K : KT ρ) : Option ρ := loopC (fun σ K => f47i N f47c26 .n σ K) f47l7 M σ K
theorem f47t25L {ρ : Type} (N : Nat) (K : KT ρ) : ∀ (M : Nat) (values1 : List Int) (sum5 : Int) (p8 : Int) (t27 : List (List Int × Int)) (t28 : Int) (t29 : Int) (t37 : List Int) (t38 : Int) (t39 : Int), f47w25 N M (f47s7 values1 sum5 p8 t27 t28 t29 t37 t38 t39) K =
  impl_EvaluateLaurent.Z25L N (fun values1 sum5 p8 t27 t28 t29 => K (.exit 2) (f47s8 values1 sum5 p8 t27 t28 t29)) M values1 sum5 p8 t27 t28 t29 t37 t38 t39
  | 0, _, _, _, _, _, _, _, _, _ => rfl
  | M + 1, values1, sum5, p8, t27, t28, t29, t37, t38, t39 => viaRound (fun k => impl_EvaluateLaurent.Z26 N values1 sum5 p8 t27 t28 t29 t37 t38 t39 k (fun values1 sum5 p8 t27 t28 t29 => K (.exit 2) (f47s8 values1 sum5 p8 t27 t28 t29))) (f47t26 N values1 sum5 p8 t27 t28 t29 t37 t38 t39 (seqK (fun σ => f47w25 N M σ K) K)) (funext fun values1 => funext fun sum5 => funext fun p8 => funext fun t27 => funext fun t28 => funext fun t29 => funext fun t37 => funext fun t38 => funext fun t39 => f47t25L N K M values1 sum5 p8 t27 t28 t29 t37 t38 t39) (by kernel_rfl) (by kernel_rfl)
theorem f47t25 {ρ : Type} (N : Nat) (values1 : List Int) (sum5 : Int) (p8 : Int) (t27 : List (List Int × Int)) (t28 : Int) (t29 : Int) (t37 : List Int) (t38 : Int) (t39 : Int) (K : KT ρ) : f47i N f47c25 f47p25 (f47s7 values1 sum5 p8 t27 t28 t29 t37 t38 t39) (joinK (some f47l8) K) =
  impl_EvaluateLaurent.Z25 N values1 sum5 p8 t27 t28 t29 t37 t38 t39 (fun values1 sum5 p8 t27 t28 t29 => K (.exit 2) (f47s8 values1 sum5 p8 t27 t28 t29)) :=
  viaLoop (by kernel_rfl) (by kernel_rfl) (σ' := f47s7 values1 sum5 p8 t27 t28 t29 t37 t38 t39) (by kernel_rfl) (f47t25L N (joinK (some f47l8) K) N values1 sum5 p8 t27 t28 t29 t37 t38 t39) (by kernel_rfl)
noncomputable def f47c24 := codeAt (bodyOf Try.f47) [1,1,1,0,1,0,0,1,1,0,0,1,1,0,1]
noncomputable def f47p24 : Plan := .mk (some f47l8) none f47p25 .n
theorem f47t24 {ρ : Type} (N : Nat) (values1 : List Int) (sum5 : Int) (p8 : Int) (t27 : List (List Int × Int)) (t28 : Int) (t29 : Int) (t37 : List Int) (t38 : Int) (t39 : Int) (K : KT ρ) : f47i N f47c24 f47p24 (f47s7 values1 sum5 p8 t27 t28 t29 t37 t38 t39) (joinK (some f47l8) K) =
  impl_EvaluateLaurent.Z24 N values1 sum5 p8 t27 t28 t29 t37 t38 t39 (fun values1 sum5 p8 t27 t28 t29 => K .nrm (f47s8 values1 sum5 p8 t27 t28 t29)) :=
  viaBlock (by kernel_rfl) (by kernel_rfl) (f47t25 N values1 sum5 p8 t27 t28 t29 t37 t38 t39 (blockK 2 (joinK (some f47l8) K))) (by kernel_rfl)
noncomputable def f47c22 := codeAt (bodyOf Try.f47) [1,1,1,0,1,0,0,1,1,0,0,1,1,0]
noncomputable def f47p22 : Plan := .mk (some f47l7) none .n f47p24
theorem f47t22 {ρ : Type} (N : Nat) (values1 : List Int) (sum5 : Int) (p8 : Int) (t27 : List (List Int × Int)) (t28 : Int) (t29 : Int) (t7_0 : List Int) (t7_1 : Int) (K : KT ρ) : f47i N f47c22 f47p22 (f47s6 values1 sum5 p8 t27 t28 t29 t7_0 t7_1) (joinK (some f47l8) K) =
  impl_EvaluateLaurent.Z22 N values1 sum5 p8 t27 t28 t29 t7_0 t7_1 (fun values1 sum5 p8 t27 t28 t29 => K .nrm (f47s8 values1 sum5 p8 t27 t28 t29)) :=
  viaSeq (fun k => impl_EvaluateLaurent.Z23 N values1 sum5 p8 t27 t28 t29 t7_0 t7_1 k) (by kernel_rfl) (by kernel_rfl) (f47t23 N values1 sum5 p8 t27 t28 t29 t7_0 t7_1 (seqK (fun σ => f47i N f47c24 f47p24 σ (joinK (some f47l8) K)) (joinK (some f47l8) K))) (funext fun values1 => funext fun sum5 => funext fun p8 => funext fun t27 => funext fun t28 => funext fun t29 => funext fun t37 => funext fun t38 => funext fun t39 => f47t24 N values1 sum5 p8 t27 t28 t29 t37 t38 t39 K) (by kernel_rfl) (by kernel_rfl)
noncomputable def f47c27 := codeAt (bodyOf Try.f47) [1,1,1,0,1,0,0,1,1,0,0,1,1,1]
theorem f47t27 {ρ : Type} (N : Nat) (values1 : List Int) (sum5 : Int) (p8 : Int) (t27 : List (List Int × Int)) (t28 : Int) (t29 : Int) (K : KT ρ) : f47i N f47c27 .n (f47s8 values1 sum5 p8 t27 t28 t29) (joinK (some f47l3) K) =
  impl_EvaluateLaurent.Z27 N values1 sum5 p8 t27 t28 t29 (fun values1 sum5 t27 t28 t29 => K .nrm (f47s3 values1 sum5 t27 t28 t29)) := by kernel_rfl
noncomputable def f47c21 := codeAt (bodyOf Try.f47) [1,1,1,0,1,0,0,1,1,0,0,1,1]
noncomputable def f47p21 : Plan := .mk (some f47l8) none f47p22 .n
theorem f47t21 {ρ : Type} (N : Nat) (values1 : List Int) (sum5 : Int) (p8 : Int) (t27 : List (List Int × Int)) (t28 : Int) (t29 : Int) (t7_0 : List Int) (t7_1 : Int) (K : KT ρ) : f47i N f47c21 f47p21 (f47s6 values1 sum5 p8 t27 t28 t29 t7_0 t7_1) (joinK (some f47l3) K) =
  impl_EvaluateLaurent.Z21 N values1 sum5 p8 t27 t28 t29 t7_0 t7_1 (fun values1 sum5 t27 t28 t29 => K .nrm (f47s3 values1 sum5 t27 t28 t29)) :=
  viaSeq (fun k => impl_EvaluateLaurent.Z22 N values1 sum5 p8 t27 t28 t29 t7_0 t7_1 k) (by kernel_rfl) (by kernel_rfl) (f47t22 N values1 sum5 p8 t27 t28 t29 t7_0 t7_1 (seqK (fun σ => f47i N f47c27 .n σ (joinK (some f47l3) K)) (joinK (some f47l3) K))) (funext fun values1 => funext fun sum5 => funext fun p8 => funext fun t27 => funext fun t28 => funext fun t29 => f47t27 N values1 sum5 p8 t27 t28 t29 K) (by kernel_rfl) (by kernel_rfl)
noncomputable def f47c19 := codeAt (bodyOf Try.f47) [1,1,1,0,1,0,0,1,1,0,0,1]
noncomputable def f47p19 : Plan := .mk (some f47l6) none .n f47p21
theorem f47t19 {ρ : Type} (N : Nat) (values1 : List Int) (sum5 : Int) (t27 : List (List Int × Int)) (t28 : Int) (t29 : Int) (t7_0 : List Int) (t7_1 : Int) (K : KT ρ) : f47i N f47c19 f47p19 (f47s5 values1 sum5 t27 t28 t29 t7_0 t7_1) (joinK (some f47l3) K) =
  impl_EvaluateLaurent.Z19 N values1 sum5 t27 t28 t29 t7_0 t7_1 (fun values1 sum5 t27 t28 t29 => K .nrm (f47s3 values1 sum5 t27 t28 t29)) :=
  viaSeq (fun k => impl_EvaluateLaurent.Z20 N values1 sum5 t27 t28 t29 t7_0 t7_1 k) (by kernel_rfl) (by kernel_rfl) (f47t20 N values1 sum5 t27 t28 t29 t7_0 t7_1 (seqK (fun σ => f47i N f47c21 f47p21 σ (joinK (some f47l3) K)) (joinK (some f47l3) K))) (funext fun values1 => funext fun sum5 => funext fun p8 => funext fun t27 => funext fun t28 => funext fun t29 => funext fun t7_0 => funext fun t7_1 => f47t21 N values1 sum5 p8 t27 t28 t29 t7_0 t7_1 K) (by kernel_rfl) (by kernel_rfl)
noncomputable def f47c17 := codeAt (bodyOf Try.f47) [1,1,1,0,1,0,0,1,1,0,0]
noncomputable def f47p17 : Plan := .mk (some f47l5) none .n f47p19
theorem f47t17 {ρ : Type} (N : Nat) (values1 : List Int) (sum5 : Int) (t27 : List (List Int × Int)) (t28 : Int) (t29 : Int) (K : KT ρ) : f47i N f47c17 f47p17 (f47s3 values1 sum5 t27 t28 t29) (joinK (some f47l3) K) =
  impl_EvaluateLaurent.Z17 N values1 sum5 t27 t28 t29 (fun values1 sum5 t27 t28 t29 => K .nrm (f47s3 values1 sum5 t27 t28 t29)) :=
  viaSeq (fun k => impl_EvaluateLaurent.Z18 N values1 sum5 t27 t28 t29 k) (by kernel_rfl) (by kernel_rfl) (f47t18 N values1 sum5 t27 t28 t29 (seqK (fun σ => f47i N f47c19 f47p19 σ (joinK (some f47l3) K)) (joinK (some f47l3) K))) (funext fun values1 => funext fun sum5 => funext fun t27 => funext fun t28 => funext fun t29 => funext fun t7_0 => funext fun t7_1 => f47t19 N values1 sum5 t27 t28 t29 t7_0 t7_1 K) (by kernel_rfl) (by kernel_rfl)
noncomputable def f47c16 := codeAt (bodyOf Try.f47) [1,1,1,0,1,0,0,1,1,0]
noncomputable def f47p16 : Plan := .mk (some f47l3) none f47p17 .n
theorem f47t16 {ρ : Type} (N : Nat) (values1 : List Int) (sum5 : Int) (t27 : List (List Int × Int)) (t28 : Int) (t29 : Int) (K : KT ρ) : f47i N f47c16 f47p16 (f47s3 values1 sum5 t27 t28 t29) (joinK (some f47l3) K) =
  impl_EvaluateLaurent.Z16 N values1 sum5 t27 t28 t29 (fun values1 sum5 t27 t28 t29 => K .nrm (f47s3 values1 sum5 t27 t28 t29)) :=
  viaBlock (by kernel_rfl) (by kernel_rfl) (f47t17 N values1 sum5 t27 t28 t29 (blockK 1 (joinK (some f47l3) K))) (by kernel_rfl)
noncomputable def f47c28 := codeAt (bodyOf Try.f47) [1,1,1,0,1,0,0,1,1,1]
theorem f47t28 {ρ : Type} (N : Nat) (values1 : List Int) (sum5 : Int) (t27 : List (List Int × Int)) (t28 : Int) (t29 : Int) (K : KT ρ) : f47i N f47c28 .n (f47s3 values1 sum5 t27 t28 t29) (joinK (some f47l3) K) =
  impl_EvaluateLaurent.Z28 N values1 sum5 t27 t28 t29 (fun values1 sum5 t27 t28 t29 => K .nrm (f47s3 values1 sum5 t27 t28 t29)) := by kernel_rfl
noncomputable def f47c15 := codeAt (bodyOf Try.f47) [1,1,1,0,1,0,0,1,1]
noncomputable def f47p15 : Plan := .mk (some f47l3) none f47p16 .n
theorem f47t15 {ρ : Type} (N : Nat) (values1 : List Int) (sum5 : Int) (t27 : List (List Int × Int)) (t28 : Int) (t29 : Int) (K : KT ρ) : f47i N f47c15 f47p15 (f47s3 values1 sum5 t27 t28 t29) (joinK (some f47l3) K) =
  impl_EvaluateLaurent.Z15 N values1 sum5 t27 t28 t29 (fun values1 sum5 t27 t28 t29 => K .nrm (f47s3 values1 sum5 t27 t28 t29)) :=
  viaSeq (fun k => impl_EvaluateLaurent.Z16 N values1 sum5 t27 t28 t29 k) (by kernel_rfl) (by kernel_rfl) (f47t16 N values1 sum5 t27 t28 t29 (seqK (fun σ => f47i N f47c28 .n σ (joinK (some f47l3) K)) (joinK (some f47l3) K))) (funext fun values1 => funext fun sum5 => funext fun t27 => funext fun t28 => funext fun t29 => f47t28 N values1 sum5 t27 t28 t29 K) (by kernel_rfl) (by kernel_rfl)
noncomputable def f47c13 := codeAt (bodyOf Try.f47) [1,1,1,0,1,0,0,1]
noncomputable def f47p13 : Plan := .mk (some f47l3) none .n f47p15
theorem f47t13 {ρ : Type} (N : Nat) (values1 : List Int) (sum5 : Int) (t27 : List (List Int × Int)) (t28 : Int) (t29 : Int) (t30 : Bool) (K : KT ρ) : f47i N f47c13 f47p13 (f47s4 values1 sum5 t27 t28 t29 t30) (joinK (some f47l3) K) =
  impl_EvaluateLaurent.Z13 N values1 sum5 t27 t28 t29 t30 (fun values1 sum5 t27 t28 t29 => K .nrm (f47s3 values1 sum5 t27 t28 t29)) (fun sum5 => K (.exit 0) (f47s9 sum5)) :=
  viaSeq (fun k => impl_EvaluateLaurent.Z14 N values1 sum5 t27 t28 t29 t30 k (fun sum5 => K (.exit 0) (f47s9 sum5))) (by kernel_rfl) (by kernel_rfl) (f47t14 N values1 sum5 t27 t28 t29 t30 (seqK (fun σ => f47i N f47c15 f47p15 σ (joinK (some f47l3) K)) (joinK (some f47l3) K))) (funext fun values1 => funext fun sum5 => funext fun t27 => funext fun t28 => funext fun t29 => f47t15 N values1 sum5 t27 t28 t29 K) (by kernel_rfl) (by kernel_rfl)
noncomputable def f47c11 := codeAt (bodyOf Try.f47) [1,1,1,0,1,0,0]
noncomputable def f47p11 : Plan := .mk (some f47l4) none .n f47p13
theorem f47t11 {ρ : Type} (N : Nat) (values1 : List Int) (sum5 : Int) (t27 : List (List Int × Int)) (t28 : Int) (t29 : Int) (K : KT ρ) : f47i N f47c11 f47p11 (f47s3 values1 sum5 t27 t28 t29) (joinK (some f47l3) K) =
  impl_EvaluateLaurent.Z11 N values1 sum5 t27 t28 t29 (fun values1 sum5 t27 t28 t29 => K .nrm (f47s3 values1 sum5 t27 t28 t29)) (fun sum5 => K (.exit 0) (f47s9 sum5)) :=
  viaSeq (fun k => impl_EvaluateLaurent.Z12 N values1 sum5 t27 t28 t29 k) (by kernel_rfl) (by kernel_rfl) (f47t12 N values1 sum5 t27 t28 t29 (seqK (fun σ => f47i N f47c13 f47p13 σ (joinK (some f47l3) K)) (joinK (some f47l3) K))) (funext fun values1 => funext fun sum5 => funext fun t27 => funext fun t28 => funext fun t29 => funext fun t30 => f47t13 N values1 sum5 t27 t28 t29 t30 K) (by kernel_rfl) (by kernel_rfl)
noncomputable def f47c10 := codeAt (bodyOf Try.f47) [1,1,1,0,1,0]
noncomputable def f47p10 : Plan := .mk none (some f47l3) f47p11 .n
noncomputable abbrev f47w10 {ρ : Type} (N : Nat) (M : Nat) (σ : St) (K : KT ρ) : Option ρ := loopC (fun σ K => f47i N f47c11 f47p11 σ K) f47l3 M σ K
theorem f47t10L {ρ : Type} (N : Nat) (K : KT ρ) : ∀ (M : Nat) (values1 : List Int) (sum5 : Int) (t27 : List (List Int × Int)) (t28 : Int) (t29 : Int), f47w10 N M (f47s3 values1 sum5 t27 t28 t29) K =
  impl_EvaluateLaurent.Z10L N (fun sum5 => K (.exit 0) (f47s9 sum5)) M values1 sum5 t27 t28 t29
  | 0, _, _, _, _, _ => rfl
  | M + 1, values1, sum5, t27, t28, t29 => viaRound (fun k => impl_EvaluateLaurent.Z11 N values1 sum5 t27 t28 t29 k (fun sum5 => K (.exit 0) (f47s9 sum5))) (f47t11 N values1 sum5 t27 t28 t29 (seqK (fun σ => f47w10 N M σ K) K)) (funext fun values1 => funext fun sum5 => funext fun t27 => funext fun t28 => funext fun t29 => f47t10L N K M values1 sum5 t27 t28 t29) (by kernel_rfl) (by kernel_rfl)
theorem f47t10 {ρ : Type} (N : Nat) (values1 : List Int) (sum5 : Int) (t27 : List (List Int × Int)) (t28 : Int) (t29 : Int) (K : KT ρ) : f47i N f47c10 f47p10 (f47s3 values1 sum5 t27 t28 t29) (joinK (some f47l9) K) =
  impl_EvaluateLaurent.Z10 N values1 sum5 t27 t28 t29 (fun sum5 => K (.exit 0) (f47s9 sum5)) :=
  viaLoop (by kernel_rfl) (by kernel_rfl) (σ' := f47s3 values1 sum5 t27 t28 t29) (by kernel_rfl) (f47t10L N (joinK (some f47l9) K) N values1 sum5 t27 t28 t29) (by kernel_rfl)
noncomputable def f47c9 := codeAt (bodyOf Try.f47) [1,1,1,0,1]
noncomputable def f47p9 : Plan := .mk (some f47l9) none f47p10 .n
theorem f47t9 {ρ : Type} (N : Nat) (values1 : List Int) (sum5 : Int) (t27 : List (List Int × Int)) (t28 : Int) (t29 : Int) (K : KT ρ) : f47i N f47c9 f47p9 (f47s3 values1 sum5 t27 t28 t29) (joinK (some f47l9) K) =
  impl_EvaluateLaurent.Z9 N values1 sum5 t27 t28 t29 (fun sum5 => K .nrm (f47s9 sum5)) :=
  viaBlock (by kernel_rfl) (by kernel_rfl) (f47t10 N values1 sum5 t27 t28 t29 (blockK 0 (joinK (some f47l9) K))) (by kernel_rfl)
noncomputable def f47c7 := codeAt (bodyOf Try.f47) [1,1,1,0]
noncomputable def f47p7 : Plan := .mk (some f47l3) none .n f47p9
theorem f47t7 {ρ : Type} (N : Nat) (values1 : List Int) (sum5 : Int) (f2_0 : Int) (f2_1 : List (List Int × Int)) (K : KT ρ) : f47i N f47c7 f47p7 (f47s2 values1 sum5 f2_0 f2_1) (joinK (some f47l9) K) =
  impl_EvaluateLaurent.Z7 N values1 sum5 f2_0 f2_1 (fun sum5 => K .nrm (f47s9 sum5)) :=
  viaSeq (fun k => impl_EvaluateLaurent.Z8 N values1 sum5 f2_0 f2_1 k) (by kernel_rfl) (by kernel_rfl) (f47t8 N values1 sum5 f2_0 f2_1 (seqK (fun σ => f47i N f47c9 f47p9 σ (joinK (some f47l9) K)) (joinK (some f47l9) K))) (funext fun values1 => funext fun sum5 => funext fun t27 => funext fun t28 => funext fun t29 => f47t9 N values1 sum5 t27 t28 t29 K) (by kernel_rfl) (by kernel_rfl)
noncomputable def f47c29 := codeAt (bodyOf Try.f47) [1,1,1,1]
theorem f47t29 {ρ : Type} (N : Nat) (sum5 : Int) (K : KT ρ) : f47i N f47c29 .n (f47s9 sum5) (joinK (some f47lE) K) =
  impl_EvaluateLaurent.Z29 N sum5 (fun t4 => K .ret (f47s10 t4)) := by kernel_rfl
noncomputable def f47c6 := codeAt (bodyOf Try.f47) [1,1,1]
noncomputable def f47p6 : Plan := .mk (some f47l9) none f47p7 .n
theorem f47t6 {ρ : Type} (N : Nat) (values1 : List Int) (sum5 : Int) (f2_0 : Int) (f2_1 : List (List Int × Int)) (K : KT ρ) : f47i N f47c6 f47p6 (f47s2 values1 sum5 f2_0 f2_1) (joinK (some f47lE) K) =
  impl_EvaluateLaurent.Z6 N values1 sum5 f2_0 f2_1 (fun t4 => K .ret (f47s10 t4)) :=
  viaSeq (fun k => impl_EvaluateLaurent.Z7 N values1 sum5 f2_0 f2_1 k) (by kernel_rfl) (by kernel_rfl) (f47t7 N values1 sum5 f2_0 f2_1 (seqK (fun σ => f47i N f47c29 .n σ (joinK (some f47lE) K)) (joinK (some f47lE) K))) (funext fun sum5 => f47t29 N sum5 K) (by kernel_rfl) (by kernel_rfl)
noncomputable def f47c4 := codeAt (bodyOf Try.f47) [1,1]
noncomputable def f47p4 : Plan := .mk (some f47l2) none .n f47p6
theorem f47t4 {ρ : Type} (N : Nat) (values1 : List Int) (f2_0 : Int) (f2_1 : List (List Int × Int)) (K : KT ρ) : f47i N f47c4 f47p4 (f47s1 values1 f2_0 f2_1) (joinK (some f47lE) K) =
  impl_EvaluateLaurent.Z4 N values1 f2_0 f2_1 (fun t4 => K .ret (f47s10 t4)) :=
  viaSeq (fun k => impl_EvaluateLaurent.Z5 N values1 f2_0 f2_1 k) (by kernel_rfl) (by kernel_rfl) (f47t5 N values1 f2_0 f2_1 (seqK (fun σ => f47i N f47c6 f47p6 σ (joinK (some f47lE) K)) (joinK (some f47lE) K))) (funext fun values1 => funext fun sum5 => funext fun f2_0 => funext fun f2_1 => f47t6 N values1 sum5 f2_0 f2_1 K) (by kernel_rfl) (by kernel_rfl)
noncomputable def f47c2 := codeAt (bodyOf Try.f47) [1]
noncomputable def f47p2 : Plan := .mk (some f47l1) none .n f47p4
theorem f47t2 {ρ : Type} (N : Nat) (values1 : List Int) (f2_0 : Int) (f2_1 : List (List Int × Int)) (K : KT ρ) : f47i N f47c2 f47p2 (f47s1 values1 f2_0 f2_1) (joinK (some f47lE) K) =
  impl_EvaluateLaurent.Z2 N values1 f2_0 f2_1 (fun t4 => K .ret (f47s10 t4)) :=
  viaSeq (fun k => impl_EvaluateLaurent.Z3 N values1 f2_0 f2_1 k (fun t4 => K .ret (f47s10 t4))) (by kernel_rfl) (by kernel_rfl) (f47t3 N values1 f2_0 f2_1 (seqK (fun σ => f47i N f47c4 f47p4 σ (joinK (some f47lE) K)) (joinK (some f47lE) K))) (funext fun values1 => funext fun f2_0 => funext fun f2_1 => f47t4 N values1 f2_0 f2_1 K) (by kernel_rfl) (by kernel_rfl)
noncomputable def f47c0 := codeAt (bodyOf Try.f47) []
noncomputable def f47p0 : Plan := .mk (some f47l1) none .n f47p2
theorem f47t0 {ρ : Type} (N : Nat) (f0 : Int × List (List Int × Int)) (values1 : List Int) (K : KT ρ) : f47i N f47c0 f47p0 (f47s0 f0 values1) (joinK (some f47lE) K) =
  impl_EvaluateLaurent.Z0 N f0 values1 (fun t4 => K .ret (f47s10 t4)) :=
  viaSeq (fun k => impl_EvaluateLaurent.Z1 N f0 values1 k) (by kernel_rfl) (by kernel_rfl) (f47t1 N f0 values1 (seqK (fun σ => f47i N f47c2 f47p2 σ (joinK (some f47lE) K)) (joinK (some f47lE) K))) (funext fun values1 => funext fun f2_0 => funext fun f2_1 => f47t2 N values1 f2_0 f2_1 K) (by kernel_rfl) (by kernel_rfl)
theorem f47m (N : Nat) (f0 : Int × List (List Int × Int)) (values1 : List Int) : f47i N f47c0 f47p0 (f47s0 f0 values1) (joinK (some f47lE) (finK tab f47sig Try.f47.results.toList)) = impl_EvaluateLaurent.Z0 N f0 values1 (fun t4 => some ((), (t4, ()))) :=
  (f47t0 N f0 values1 (finK tab f47sig Try.f47.results.toList)).trans (by kernel_rfl)
theorem f47ok (h : impl_EvaluateLaurent.Spec) : EntryOk Try.prog 47 e47 :=
  entry_of_code (sig := f47sig) (c := f47c0) (pl := f47p0) (je := (some f47lE)) (B := f47B) Try.func47 (by kernel_rfl) (by kernel_rfl) (by kernel_rfl) tabOk f47GOk (by kernel_rfl) (by kernel_rfl) (by kernel_rfl) (by kernel_rfl) fun X hb hp => by
    obtain ⟨f0, values1, _⟩ := X
    obtain ⟨N, h⟩ := h f0 values1 hb.1 hb.2.1
    exact ⟨N, (f47m N f0 values1).trans (h N (Nat.le_refl N))⟩
theorem e47ok : EntryOk Try.prog 47 e47 := f47ok impl_EvaluateLaurent.ok
end Go.Fw
set_option linter.unusedVariables false
set_option linter.unusedSimpArgs false
set_option maxRecDepth 100000
namespace Go.Fw
open Go.Proofs
/-! ### loop.example/g03115/laws.eqIntS -/
noncomputable def f22sig : Sig := ⟨[⟨.sl 3 (.int .i64), false, false⟩, ⟨.sl 3 (.int .i64), false, false⟩], [⟨.bool, false, false⟩]⟩
noncomputable def e22 : Entry := ⟨f22sig, none, fun X => ((), ((laws_eqIntS.g X.1 X.2.1), ()))⟩
noncomputable def f22G : Nat → Option Entry := (fun _ => none)
theorem f22GOk : GOk Try.prog f22G := GOk.nil
noncomputable def f22lE : Clean := ⟨[], [], [], [], []⟩
noncomputable def f22s0 (a0 : List Int) (b1 : List Int) : St := initSt f22sig.ps (a0, (b1, ()))
noncomputable def f22s1 (a0 : List Int) (b1 : List Int) : St := stOf [(0, .c (.sn 3 (.int .i64) a0 none)), (1, .c (.sn 3 (.int .i64) b1 none))] [] []
noncomputable def f22l1 : Clean := ⟨[0, 1], [], [], [], []⟩
noncomputable def f22s2 (a0 : List Int) (b1 : List Int) (i5 : Int) : St := stOf [(0, .c (.sn 3 (.int .i64) a0 none)), (1, .c (.sn 3 (.int .i64) b1 none)), (5, .c (.int .i64 i5))] [] []
noncomputable def f22l2 : Clean := ⟨[0, 1, 5], [], [], [], []⟩
noncomputable def f22s3  : St := stOf [] [] []
noncomputable def f22l3 : Clean := ⟨[], [], [], [], []⟩
noncomputable def f22s4 (t4 : Bool) : St := stOf [(4, .c (.bool t4))] [] []
noncomputable def f22l4 : Clean := ⟨[4], [], [], [], []⟩
noncomputable def f22B : Nat → Option Clean := lookL [(0, f22l3), (1000000, f22l4)]
noncomputable abbrev f22i {ρ : Type} (N : Nat) (c : Code) (p : Plan) (σ : St) (K : KT ρ) : Option ρ := iCode f22G tab f22B N c p σ K
noncomputable def f22c1 := codeAt (bodyOf Try.f22) [0]
theorem f22t1 {ρ : Type} (N : Nat) (a0 : List Int) (b1 : List Int) (K : KT ρ) : f22i N f22c1 .n (f22s0 a0 b1) (joinK (some f22l1) K) =
  laws_eqIntS.Z1 N a0 b1 (fun a0 b1 => K .nrm (f22s1 a0 b1)) := by kernel_rfl
noncomputable def f22c3 := codeAt (bodyOf Try.f22) [1,0]
theorem f22t3 {ρ : Type} (N : Nat) (a0 : List Int) (b1 : List Int) (K : KT ρ) : f22i N f22c3 .n (f22s1 a0 b1) (joinK (some f22l1) K) =
  laws_eqIntS.Z3 N a0 b1 (fun a0 b1 => K .nrm (f22s1 a0 b1)) (fun t4 => K .ret (f22s4 t4)) := by kernel_rfl
noncomputable def f22c6 := codeAt (bodyOf Try.f22) [1,1,0,0]
theorem f22t6 {ρ : Type} (N : Nat) (a0 : List Int) (b1 : List Int) (K : KT ρ) : f22i N f22c6 .n (f22s1 a0 b1) (joinK (some f22l2) K) =
  laws_eqIntS.Z6 N a0 b1 (fun a0 b1 i5 => K .nrm (f22s2 a0 b1 i5)) := by kernel_rfl
noncomputable def f22c9 := codeAt (bodyOf Try.f22) [1,1,0,1,0,0]
theorem f22t9 {ρ : Type} (N : Nat) (a0 : List Int) (b1 : List Int) (i5 : Int) (K : KT ρ) : f22i N f22c9 .n (f22s2 a0 b1 i5) (joinK (some f22l2) K) =
  laws_eqIntS.Z9 N a0 b1 i5 (fun a0 b1 i5 => K .nrm (f22s2 a0 b1 i5)) (K (.exit 0) f22s3) (fun t4 => K .ret (f22s4 t4)) := by kernel_rfl
noncomputable def f22c8 := codeAt (bodyOf Try.f22) [1,1,0,1,0]
noncomputable def f22p8 : Plan := .mk none (some f22l2) .n .n
noncomputable abbrev f22w8 {ρ : Type} (N : Nat) (M : Nat) (σ : St) (K : KT ρ) : Option ρ := loopC (fun σ K => f22i N f22c9 .n σ K) f22l2 M σ K
theorem f22t8L {ρ : Type} (N : Nat) (K : KT ρ) : ∀ (M : Nat) (a0 : List Int) (b1 : List Int) (i5 : Int), f22w8 N M (f22s2 a0 b1 i5) K =
  laws_eqIntS.Z8L N (K (.exit 0) f22s3) (fun t4 => K .ret (f22s4 t4)) M a0 b1 i5
  | 0, _, _, _ => rfl
  | M + 1, a0, b1, i5 => viaRound (fun k => laws_eqIntS.Z9 N a0 b1 i5 k (K (.exit 0) f22s3) (fun t4 => K .ret (f22s4 t4))) (f22t9 N a0 b1 i5 (seqK (fun σ => f22w8 N M σ K) K)) (funext fun a0 => funext fun b1 => funext fun i5 => f22t8L N K M a0 b1 i5) (by kernel_rfl) (by kernel_rfl)
theorem f22t8 {ρ : Type} (N : Nat) (a0 : List Int) (b1 : List Int) (i5 : Int) (K : KT ρ) : f22i N f22c8 f22p8 (f22s2 a0 b1 i5) (joinK (some f22l3) K) =
  laws_eqIntS.Z8 N a0 b1 i5 (K (.exit 0) f22s3) (fun t4 => K .ret (f22s4 t4)) :=
  viaLoop (by kernel_rfl) (by kernel_rfl) (σ' := f22s2 a0 b1 i5) (by kernel_rfl) (f22t8L N (joinK (some f22l3) K) N a0 b1 i5) (by kernel_rfl)
noncomputable def f22c7 := codeAt (bodyOf Try.f22) [1,1,0,1]
noncomputable def f22p7 : Plan := .mk (some f22l3) none f22p8 .n
theorem f22t7 {ρ : Type} (N : Nat) (a0 : List Int) (b1 : List Int) (i5 : Int) (K : KT ρ) : f22i N f22c7 f22p7 (f22s2 a0 b1 i5) (joinK (some f22l3) K) =
  laws_eqIntS.Z7 N a0 b1 i5 (K .nrm f22s3) (fun t4 => K .ret (f22s4 t4)) :=
  viaBlock (by kernel_rfl) (by kernel_rfl) (f22t8 N a0 b1 i5 (blockK 0 (joinK (some f22l3) K))) (by kernel_rfl)
noncomputable def f22c5 := codeAt (bodyOf Try.f22) [1,1,0]
noncomputable def f22p5 : Plan := .mk (some f22l2) none .n f22p7
theorem f22t5 {ρ : Type} (N : Nat) (a0 : List Int) (b1 : List Int) (K : KT ρ) : f22i N f22c5 f22p5 (f22s1 a0 b1) (joinK (some f22l3) K) =
  laws_eqIntS.Z5 N a0 b1 (K .nrm f22s3) (fun t4 => K .ret (f22s4 t4)) :=
  viaSeq (fun k => laws_eqIntS.Z6 N a0 b1 k) (by kernel_rfl) (by kernel_rfl) (f22t6 N a0 b1 (seqK (fun σ => f22i N f22c7 f22p7 σ (joinK (some f22l3) K)) (joinK (some f22l3) K))) (funext fun a0 => funext fun b1 => funext fun i5 => f22t7 N a0 b1 i5 K) (by kernel_rfl) (by kernel_rfl)
noncomputable def f22c10 := codeAt (bodyOf Try.f22) [1,1,1]
theorem f22t10 {ρ : Type} (N : Nat)  (K : KT ρ) : f22i N f22c10 .n f22s3 (joinK (some f22lE) K) =
  laws_eqIntS.Z10 N (fun t4 => K .ret (f22s4 t4)) := by kernel_rfl
noncomputable def f22c4 := codeAt (bodyOf Try.f22) [1,1]
noncomputable def f22p4 : Plan := .mk (some f22l3) none f22p5 .n
theorem f22t4 {ρ : Type} (N : Nat) (a0 : List Int) (b1 : List Int) (K : KT ρ) : f22i N f22c4 f22p4 (f22s1 a0 b1) (joinK (some f22lE) K) =
  laws_eqIntS.Z4 N a0 b1 (fun t4 => K .ret (f22s4 t4)) :=
  viaSeq (fun k => laws_eqIntS.Z5 N a0 b1 k (fun t4 => K .ret (f22s4 t4))) (by kernel_rfl) (by kernel_rfl) (f22t5 N a0 b1 (seqK (fun σ => f22i N f22c10 .n σ (joinK (some f22lE) K)) (joinK (some f22lE) K))) (f22t10 N K) (by kernel_rfl) (by kernel_rfl)
noncomputable def f22c2 := codeAt (bodyOf Try.f22) [1]
noncomputable def f22p2 : Plan := .mk (some f22l1) none .n f22p4
theorem f22t2 {ρ : Type} (N : Nat) (a0 : List Int) (b1 : List Int) (K : KT ρ) : f22i N f22c2 f22p2 (f22s1 a0 b1) (joinK (some f22lE) K) =
  laws_eqIntS.Z2 N a0 b1 (fun t4 => K .ret (f22s4 t4)) :=
  viaSeq (fun k => laws_eqIntS.Z3 N a0 b1 k (fun t4 => K .ret (f22s4 t4))) (by kernel_rfl) (by kernel_rfl) (f22t3 N a0 b1 (seqK (fun σ => f22i N f22c4 f22p4 σ (joinK (some f22lE) K)) (joinK (some f22lE) K))) (funext fun a0 => funext fun b1 => f22t4 N a0 b1 K) (by kernel_rfl) (by kernel_rfl)
noncomputable def f22c0 := codeAt (bodyOf Try.f22) []
noncomputable def f22p0 : Plan := .mk (some f22l1) none .n f22p2
theorem f22t0 {ρ : Type} (N : Nat) (a0 : List Int) (b1 : List Int) (K : KT ρ) : f22i N f22c0 f22p0 (f22s0 a0 b1) (joinK (some f22lE) K) =
  laws_eqIntS.Z0 N a0 b1 (fun t4 => K .ret (f22s4 t4)) :=
  viaSeq (fun k => laws_eqIntS.Z1 N a0 b1 k) (by kernel_rfl) (by kernel_rfl) (f22t1 N a0 b1 (seqK (fun σ => f22i N f22c2 f22p2 σ (joinK (some f22lE) K)) (joinK (some f22lE) K))) (funext fun a0 => funext fun b1 => f22t2 N a0 b1 K) (by kernel_rfl) (by kernel_rfl)
theorem f22m (N : Nat) (a0 : List Int) (b1 : List Int) : f22i N f22c0 f22p0 (f22s0 a0 b1) (joinK (some f22lE) (finK tab f22sig Try.f22.results.toList)) = laws_eqIntS.Z0 N a0 b1 (fun t4 => some ((), (t4, ()))) :=
  (f22t0 N a0 b1 (finK tab f22sig Try.f22.results.toList)).trans (by kernel_rfl)
theorem f22ok (h : laws_eqIntS.Spec) : EntryOk Try.prog 22 e22 :=
  entry_of_code (sig := f22sig) (c := f22c0) (pl := f22p0) (je := (some f22lE)) (B := f22B) Try.func22 (by kernel_rfl) (by kernel_rfl) (by kernel_rfl) tabOk f22GOk (by kernel_rfl) (by kernel_rfl) (by kernel_rfl) (by kernel_rfl) fun X hb hp => by
    obtain ⟨a0, b1, _⟩ := X
    obtain ⟨N, h⟩ := h a0 b1 hb.1 hb.2.1
    exact ⟨N, (f22m N a0 b1).trans (h N (Nat.le_refl N))⟩
theorem e22ok : EntryOk Try.prog 22 e22 := f22ok laws_eqIntS.ok
end Go.Fw
set_option linter.unusedVariables false
set_option linter.unusedSimpArgs false
set_option maxRecDepth 100000
namespace Go.Fw
open Go.Proofs
/-! ### loop.example/g03115/laws.eqTerm -/
noncomputable def f78sig : Sig := ⟨[⟨.pair (.sl 3 (.int .i64)) (.int .i64), true, false⟩, ⟨.pair (.sl 3 (.int .i64)) (.int .i64), true, false⟩], [⟨.bool, false, false⟩]⟩
noncomputable def e78 : Entry := ⟨f78sig, none, fun X => ((), ((laws_eqTerm.g X.1 X.2.1), ()))⟩
noncomputable def f78G : Nat → Option Entry := addG (fun _ => none) 22 e22
theorem f78GOk : GOk Try.prog f78G := (GOk.nil).add e22ok (by kernel_rfl)
noncomputable def f78lE : Clean := ⟨[], [], [], [], []⟩
noncomputable def f78s0 (a0 : List Int × Int) (b1 : List Int × Int) : St := initSt f78sig.ps (a0, (b1, ()))
noncomputable def f78s1 (t4 : Bool) : St := stOf [(4, .c (.bool t4))] [] []
noncomputable def f78l1 : Clean := ⟨[4], [], [], [], []⟩
noncomputable def f78B : Nat → Option Clean := lookL [(1000000, f78l1)]
noncomputable abbrev f78i {ρ : Type} (N : Nat) (c : Code) (p : Plan) (σ : St) (K : KT ρ) : Option ρ := iCode f78G tab f78B N c p σ K
noncomputable def f78c0 := codeAt (bodyOf Try.f78) []
theorem f78t0 {ρ : Type} (N : Nat) (a0 : List Int × Int) (b1 : List Int × Int) (K : KT ρ) : f78i N f78c0 .n (f78s0 a0 b1) (joinK (some f78lE) K) =
  laws_eqTerm.Z0 N a0 b1 (fun t4 => K .ret (f78s1 t4)) := by kernel_rfl
theorem f78m (N : Nat) (a0 : List Int × Int) (b1 : List Int × Int) : f78i N f78c0 .n (f78s0 a0 b1) (joinK (some f78lE) (finK tab f78sig Try.f78.results.toList)) = laws_eqTerm.Z0 N a0 b1 (fun t4 => some ((), (t4, ()))) :=
  (f78t0 N a0 b1 (finK tab f78sig Try.f78.results.toList)).trans (by kernel_rfl)
theorem f78ok (h : laws_eqTerm.Spec) : EntryOk Try.prog 78 e78 :=
  entry_of_code (sig := f78sig) (c := f78c0) (pl := .n) (je := (some f78lE)) (B := f78B) Try.func78 (by kernel_rfl) (by kernel_rfl) (by kernel_rfl) tabOk f78GOk (by kernel_rfl) (by kernel_rfl) (by kernel_rfl) (by kernel_rfl) fun X hb hp => by
    obtain ⟨a0, b1, _⟩ := X
    obtain ⟨N, h⟩ := h a0 b1 hb.1 hb.2.1
    exact ⟨N, (f78m N a0 b1).trans (h N (Nat.le_refl N))⟩
theorem e78ok : EntryOk Try.prog 78 e78 := f78ok laws_eqTerm.ok
end Go.Fw
set_option linter.unusedVariables false
set_option linter.unusedSimpArgs false
set_option maxRecDepth 100000
namespace Go.Fw
open Go.Proofs
/-! ### loop.example/g03115/laws.eqTermS -/
noncomputable def f50sig : Sig := ⟨[⟨.sl 59 (.pair (.sl 3 (.int .i64)) (.int .i64)), false, false⟩, ⟨.sl 59 (.pair (.sl 3 (.int .i64)) (.int .i64)), false, false⟩], [⟨.bool, false, false⟩]⟩
noncomputable def e50 : Entry := ⟨f50sig, none, fun X => ((), ((laws_eqTermS.g X.1 X.2.1), ()))⟩
noncomputable def f50G : Nat → Option Entry := addG (fun _ => none) 78 e78
theorem f50GOk : GOk Try.prog f50G := (GOk.nil).add e78ok (by kernel_rfl)
noncomputable def f50lE : Clean := ⟨[], [], [], [], []⟩
noncomputable def f50s0 (a0 : List (List Int × Int)) (b1 : List (List Int × Int)) : St := initSt f50sig.ps (a0, (b1, ()))
noncomputable def f50s1 (a0 : List (List Int × Int)) (b1 : List (List Int × Int)) : St := stOf [(0, .c (.sn 59 (.pair (.sl 3 (.int .i64)) (.int .i64)) a0 none)), (1, .c (.sn 59 (.pair (.sl 3 (.int .i64)) (.int .i64)) b1 none))] [] []
noncomputable def f50l1 : Clean := ⟨[0, 1], [], [], [], []⟩
noncomputable def f50s2 (a0 : List (List Int × Int)) (b1 : List (List Int × Int)) (i5 : Int) : St := stOf [(0, .c (.sn 59 (.pair (.sl 3 (.int .i64)) (.int .i64)) a0 none)), (1, .c (.sn 59 (.pair (.sl 3 (.int .i64)) (.int .i64)) b1 none)), (5, .c (.int .i64 i5))] [] []
noncomputable def f50l2 : Clean := ⟨[0, 1, 5], [], [], [], []⟩
noncomputable def f50s3  : St := stOf [] [] []
noncomputable def f50l3 : Clean := ⟨[], [], [], [], []⟩
noncomputable def f50s4 (t4 : Bool) : St := stOf [(4, .c (.bool t4))] [] []
noncomputable def f50l4 : Clean := ⟨[4], [], [], [], []⟩
noncomputable def f50B : Nat → Option Clean := lookL [(0, f50l3), (1000000, f50l4)]
noncomputable abbrev f50i {ρ : Type} (N : Nat) (c : Code) (p : Plan) (σ : St) (K : KT ρ) : Option ρ := iCode f50G tab f50B N c p σ K
noncomputable def f50c1 := codeAt (bodyOf Try.f50) [0]
theorem f50t1 {ρ : Type} (N : Nat) (a0 : List (List Int × Int)) (b1 : List (List Int × Int)) (K : KT ρ) : f50i N f50c1 .n (f50s0 a0 b1) (joinK (some f50l1) K) =
  laws_eqTermS.Z1 N a0 b1 (fun a0 b1 => K .nrm (f50s1 a0 b1)) := by kernel_rfl
noncomputable def f50c3 := codeAt (bodyOf Try.f50) [1,0]
theorem f50t3 {ρ : Type} (N : Nat) (a0 : List (List Int × Int)) (b1 : List (List Int × Int)) (K : KT ρ) : f50i N f50c3 .n (f50s1 a0 b1) (joinK (some f50l1) K) =
  laws_eqTermS.Z3 N a0 b1 (fun a0 b1 => K .nrm (f50s1 a0 b1)) (fun t4 => K .ret (f50s4 t4)) := by kernel_rfl
noncomputable def f50c6 := codeAt (bodyOf Try.f50) [1,1,0,0]
theorem f50t6 {ρ : Type} (N : Nat) (a0 : List (List Int × Int)) (b1 : List (List Int × Int)) (K : KT ρ) : f50i N f50c6 .n (f50s1 a0 b1) (joinK (some f50l2) K) =
  laws_eqTermS.Z6 N a0 b1 (fun a0 b1 i5 => K .nrm (f50s2 a0 b1 i5)) := by kernel_rfl
noncomputable def f50c9 := codeAt (bodyOf Try.f50) [1,1,0,1,0,0]
theorem f50t9 {ρ : Type} (N : Nat) (a0 : List (List Int × Int)) (b1 : List (List Int × Int)) (i5 : Int) (K : KT ρ) : f50i N f50c9 .n (f50s2 a0 b1 i5) (joinK (some f50l2) K) =
  laws_eqTermS.Z9 N a0 b1 i5 (fun a0 b1 i5 => K .nrm (f50s2 a0 b1 i5)) (K (.exit 0) f50s3) (fun t4 => K .ret (f50s4 t4)) := by kernel_rfl
noncomputable def f50c8 := codeAt (bodyOf Try.f50) [1,1,0,1,0]
noncomputable def f50p8 : Plan := .mk none (some f50l2) .n .n
noncomputable abbrev f50w8 {ρ : Type} (N : Nat) (M : Nat) (σ : St) (K : KT ρ) : Option ρ := loopC (fun σ K => f50i N f50c9 .n σ K) f50l2 M σ K
theorem f50t8L {ρ : Type} (N : Nat) (K : KT ρ) : ∀ (M : Nat) (a0 : List (List Int × Int)) (b1 : List (List Int × Int)) (i5 : Int), f50w8 N M (f50s2 a0 b1 i5) K =
  laws_eqTermS.Z8L N (K (.exit 0) f50s3) (fun t4 => K .ret (f50s4 t4)) M a0 b1 i5
  | 0, _, _, _ => rfl
  | M + 1, a0, b1, i5 => viaRound (fun k => laws_eqTermS.Z9 N a0 b1 i5 k (K (.exit 0) f50s3) (fun t4 => K .ret (f50s4 t4))) (f50t9 N a0 b1 i5 (seqK (fun σ => f50w8 N M σ K) K)) (funext fun a0 => funext fun b1 => funext fun i5 => f50t8L N K M a0 b1 i5) (by kernel_rfl) (by kernel_rfl)
theorem f50t8 {ρ : Type} (N : Nat) (a0 : List (List Int × Int)) (b1 : List (List Int × Int)) (i5 : Int) (K : KT ρ) : f50i N f50c8 f50p8 (f50s2 a0 b1 i5) (joinK (some f50l3) K) =
  laws_eqTermS.Z8 N a0 b1 i5 (K (.exit 0) f50s3) (fun t4 => K .ret (f50s4 t4)) :=
  viaLoop (by kernel_rfl) (by kernel_rfl) (σ' := f50s2 a0 b1 i5) (by kernel_rfl) (f50t8L N (joinK (some f50l3) K) N a0 b1 i5) (by kernel_rfl)
noncomputable def f50c7 := codeAt (bodyOf Try.f50) [1,1,0,1]
noncomputable def f50p7 : Plan := .mk (some f50l3) none f50p8 .n
theorem f50t7 {ρ : Type} (N : Nat) (a0 : List (List Int × Int)) (b1 : List (List Int × Int)) (i5 : Int) (K : KT ρ) : f50i N f50c7 f50p7 (f50s2 a0 b1 i5) (joinK (some f50l3) K) =
  laws_eqTermS.Z7 N a0 b1 i5 (K .nrm f50s3) (fun t4 => K .ret (f50s4 t4)) :=
  viaBlock (by kernel_rfl) (by kernel_rfl) (f50t8 N a0 b1 i5 (blockK 0 (joinK (some f50l3) K))) (by kernel_rfl)
noncomputable def f50c5 := codeAt (bodyOf Try.f50) [1,1,0]
noncomputable def f50p5 : Plan := .mk (some f50l2) none .n f50p7
theorem f50t5 {ρ : Type} (N : Nat) (a0 : List (List Int × Int)) (b1 : List (List Int × Int)) (K : KT ρ) : f50i N f50c5 f50p5 (f50s1 a0 b1) (joinK (some f50l3) K) =
  laws_eqTermS.Z5 N a0 b1 (K .nrm f50s3) (fun t4 => K .ret (f50s4 t4)) :=
  viaSeq (fun k => laws_eqTermS.Z6 N a0 b1 k) (by kernel_rfl) (by kernel_rfl) (f50t6 N a0 b1 (seqK (fun σ => f50i N f50c7 f50p7 σ (joinK (some f50l3) K)) (joinK (some f50l3) K))) (funext fun a0 => funext fun b1 => funext fun i5 => f50t7 N a0 b1 i5 K) (by kernel_rfl) (by kernel_rfl)
noncomputable def f50c10 := codeAt (bodyOf Try.f50) [1,1,1]
theorem f50t10 {ρ : Type} (N : Nat)  (K : KT ρ) : f50i N f50c10 .n f50s3 (joinK (some f50lE) K) =
  laws_eqTermS.Z10 N (fun t4 => K .ret (f50s4 t4)) := by kernel_rfl
noncomputable def f50c4 := codeAt (bodyOf Try.f50) [1,1]
noncomputable def f50p4 : Plan := .mk (some f50l3) none f50p5 .n
theorem f50t4 {ρ : Type} (N : Nat) (a0 : List (List Int × Int)) (b1 : List (List Int × Int)) (K : KT ρ) : f50i N f50c4 f50p4 (f50s1 a0 b1) (joinK (some f50lE) K) =
  laws_eqTermS.Z4 N a0 b1 (fun t4 => K .ret (f50s4 t4)) :=
  viaSeq (fun k => laws_eqTermS.Z5 N a0 b1 k (fun t4 => K .ret (f50s4 t4))) (by kernel_rfl) (by kernel_rfl) (f50t5 N a0 b1 (seqK (fun σ => f50i N f50c10 .n σ (joinK (some f50lE) K)) (joinK (some f50lE) K))) (f50t10 N K) (by kernel_rfl) (by kernel_rfl)
noncomputable def f50c2 := codeAt (bodyOf Try.f50) [1]
noncomputable def f50p2 : Plan := .mk (some f50l1) none .n f50p4
theorem f50t2 {ρ : Type} (N : Nat) (a0 : List (List Int × Int)) (b1 : List (List Int × Int)) (K : KT ρ) : f50i N f50c2 f50p2 (f50s1 a0 b1) (joinK (some f50lE) K) =
  laws_eqTermS.Z2 N a0 b1 (fun t4 => K .ret (f50s4 t4)) :=
  viaSeq (fun k => laws_eqTermS.Z3 N a0 b1 k (fun t4 => K .ret (f50s4 t4))) (by kernel_rfl) (by kernel_rfl) (f50t3 N a0 b1 (seqK (fun σ => f50i N f50c4 f50p4 σ (joinK (some f50lE) K)) (joinK (some f50lE) K))) (funext fun a0 => funext fun b1 => f50t4 N a0 b1 K) (by kernel_rfl) (by kernel_rfl)
noncomputable def f50c0 := codeAt (bodyOf Try.f50) []
noncomputable def f50p0 : Plan := .mk (some f50l1) none .n f50p2
theorem f50t0 {ρ : Type} (N : Nat) (a0 : List (List Int × Int)) (b1 : List (List Int × Int)) (K : KT ρ) : f50i N f50c0 f50p0 (f50s0 a0 b1) (joinK (some f50lE) K) =
  laws_eqTermS.Z0 N a0 b1 (fun t4 => K .ret (f50s4 t4)) :=
  viaSeq (fun k => laws_eqTermS.Z1 N a0 b1 k) (by kernel_rfl) (by kernel_rfl) (f50t1 N a0 b1 (seqK (fun σ => f50i N f50c2 f50p2 σ (joinK (some f50lE) K)) (joinK (some f50lE) K))) (funext fun a0 => funext fun b1 => f50t2 N a0 b1 K) (by kernel_rfl) (by kernel_rfl)
theorem f50m (N : Nat) (a0 : List (List Int × Int)) (b1 : List (List Int × Int)) : f50i N f50c0 f50p0 (f50s0 a0 b1) (joinK (some f50lE) (finK tab f50sig Try.f50.results.toList)) = laws_eqTermS.Z0 N a0 b1 (fun t4 => some ((), (t4, ()))) :=
  (f50t0 N a0 b1 (finK tab f50sig Try.f50.results.toList)).trans (by kernel_rfl)
theorem f50ok (h : laws_eqTermS.Spec) : EntryOk Try.prog 50 e50 :=
  entry_of_code (sig := f50sig) (c := f50c0) (pl := f50p0) (je := (some f50lE)) (B := f50B) Try.func50 (by kernel_rfl) (by kernel_rfl) (by kernel_rfl) tabOk f50GOk (by kernel_rfl) (by kernel_rfl) (by kernel_rfl) (by kernel_rfl) fun X hb hp => by
    obtain ⟨a0, b1, _⟩ := X
    obtain ⟨N, h⟩ := h a0 b1 hb.1 hb.2.1
    exact ⟨N, (f50m N a0 b1).trans (h N (Nat.le_refl N))⟩
theorem e50ok : EntryOk Try.prog 50 e50 := f50ok laws_eqTermS.ok
end Go.Fw
set_option linter.unusedVariables false
set_option linter.unusedSimpArgs false
set_option maxRecDepth 100000
namespace Go.Fw
open Go.Proofs
/-! ### loop.example/g03115/laws.eqLaurent -/
noncomputable def f16sig : Sig := ⟨[⟨.pair (.int .i64) (.sl 59 (.pair (.sl 3 (.int .i64)) (.int .i64))), true, false⟩, ⟨.pair (.int .i64) (.sl 59 (.pair (.sl 3 (.int .i64)) (.int .i64))), true, false⟩], [⟨.bool, false, false⟩]⟩
noncomputable def e16 : Entry := ⟨f16sig, none, fun X => ((), ((laws_eqLaurent.g X.1 X.2.1), ()))⟩
noncomputable def f16G : Nat → Option Entry := addG (fun _ => none) 50 e50
theorem f16GOk : GOk Try.prog f16G := (GOk.nil).add e50ok (by kernel_rfl)
noncomputable def f16lE : Clean := ⟨[], [], [], [], []⟩
noncomputable def f16s0 (a0 : Int × List (List Int × Int)) (b1 : Int × List (List Int × Int)) : St := initSt f16sig.ps (a0, (b1, ()))
noncomputable def f16s1 (t4 : Bool) : St := stOf [(4, .c (.bool t4))] [] []
noncomputable def f16l1 : Clean := ⟨[4], [], [], [], []⟩
noncomputable def f16B : Nat → Option Clean := lookL [(1000000, f16l1)]
noncomputable abbrev f16i {ρ : Type} (N : Nat) (c : Code) (p : Plan) (σ : St) (K : KT ρ) : Option ρ := iCode f16G tab f16B N c p σ K
noncomputable def f16c0 := codeAt (bodyOf Try.f16) []
theorem f16t0 {ρ : Type} (N : Nat) (a0 : Int × List (List Int × Int)) (b1 : Int × List (List Int × Int)) (K : KT ρ) : f16i N f16c0 .n (f16s0 a0 b1) (joinK (some f16lE) K) =
  laws_eqLaurent.Z0 N a0 b1 (fun t4 => K .ret (f16s1 t4)) := by kernel_rfl
theorem f16m (N : Nat) (a0 : Int × List (List Int × Int)) (b1 : Int × List (List Int × Int)) : f16i N f16c0 .n (f16s0 a0 b1) (joinK (some f16lE) (finK tab f16sig Try.f16.results.toList)) = laws_eqLaurent.Z0 N a0 b1 (fun t4 => some ((), (t4, ()))) :=
  (f16t0 N a0 b1 (finK tab f16sig Try.f16.results.toList)).trans (by kernel_rfl)
theorem f16ok (h : laws_eqLaurent.Spec) : EntryOk Try.prog 16 e16 :=
  entry_of_code (sig := f16sig) (c := f16c0) (pl := .n) (je := (some f16lE)) (B := f16B) Try.func16 (by kernel_rfl) (by kernel_rfl) (by kernel_rfl) tabOk f16GOk (by kernel_rfl) (by kernel_rfl) (by kernel_rfl) (by kernel_rfl) fun X hb hp => by
    obtain ⟨a0, b1, _⟩ := X
    obtain ⟨N, h⟩ := h a0 b1 hb.1 hb.2.1
    exact ⟨N, (f16m N a0 b1).trans (h N (Nat.le_refl N))⟩
theorem e16ok : EntryOk Try.prog 16 e16 := f16ok laws_eqLaurent.ok
end Go.Fw
set_option linter.unusedVariables false
set_option linter.unusedSimpArgs false
set_option maxRecDepth 100000
namespace Go.Fw
open Go.Proofs
/-! ### loop.example/g03115/laws.FnExactEvaluateLaurent -/
noncomputable def f13sig : Sig := ⟨[⟨.pair (.int .i64) (.sl 79 (.pair (.sl 3 (.int .i64)) (.int .i64))), true, false⟩, ⟨.sl 3 (.int .i64), false, false⟩], [⟨.bool, false, false⟩]⟩
noncomputable def e13 : Entry := ⟨f13sig, none, fun X => ((), ((laws_FnExactEvaluateLaurent.g X.1 X.2.1), ()))⟩
noncomputable def f13G : Nat → Option Entry := addG (addG (addG (addG (addG (addG (addG (fun _ => none) 16 e16) 20 e20) 22 e22) 24 e24) 26 e26) 46 e46) 47 e47
theorem f13GOk : GOk Try.prog f13G := (((((((GOk.nil).add e16ok (by kernel_rfl)).add e20ok (by kernel_rfl)).add e22ok (by kernel_rfl)).add e24ok (by kernel_rfl)).add e26ok (by kernel_rfl)).add e46ok (by kernel_rfl)).add e47ok (by kernel_rfl)
noncomputable def f13lE : Clean := ⟨[], [], [], [], []⟩
noncomputable def f13s0 (aF0 : Int × List (List Int × Int)) (aValues1 : List Int) : St := initSt f13sig.ps (aF0, (aValues1, ()))
noncomputable def f13s1 (t4 : Bool) : St := stOf [(4, .c (.bool t4))] [] []
noncomputable def f13l1 : Clean := ⟨[4], [], [], [], []⟩
noncomputable def f13B : Nat → Option Clean := lookL [(1000000, f13l1)]
noncomputable abbrev f13i {ρ : Type} (N : Nat) (c : Code) (p : Plan) (σ : St) (K : KT ρ) : Option ρ := iCode f13G tab f13B N c p σ K
noncomputable def f13c0 := codeAt (bodyOf Try.f13) []
theorem f13t0 {ρ : Type} (N : Nat) (aF0 : Int × List (List Int × Int)) (aValues1 : List Int) (K : KT ρ) : f13i N f13c0 .n (f13s0 aF0 aValues1) (joinK (some f13lE) K) =
  laws_FnExactEvaluateLaurent.Z0 N aF0 aValues1 (fun t4 => K .ret (f13s1 t4)) := by kernel_rfl
theorem f13m (N : Nat) (aF0 : Int × List (List Int × Int)) (aValues1 : List Int) : f13i N f13c0 .n (f13s0 aF0 aValues1) (joinK (some f13lE) (finK tab f13sig Try.f13.results.toList)) = laws_FnExactEvaluateLaurent.Z0 N aF0 aValues1 (fun t4 => some ((), (t4, ()))) :=
  (f13t0 N aF0 aValues1 (finK tab f13sig Try.f13.results.toList)).trans (by kernel_rfl)
theorem f13ok (h : laws_FnExactEvaluateLaurent.Spec) : EntryOk Try.prog 13 e13 :=
  entry_of_code (sig := f13sig) (c := f13c0) (pl := .n) (je := (some f13lE)) (B := f13B) Try.func13 (by kernel_rfl) (by kernel_rfl) (by kernel_rfl) tabOk f13GOk (by kernel_rfl) (by kernel_rfl) (by kernel_rfl) (by kernel_rfl) fun X hb hp => by
    obtain ⟨aF0, aValues1, _⟩ := X
    obtain ⟨N, h⟩ := h aF0 aValues1 hb.1 hb.2.1
    exact ⟨N, (f13m N aF0 aValues1).trans (h N (Nat.le_refl N))⟩
theorem e13ok : EntryOk Try.prog 13 e13 := f13ok laws_FnExactEvaluateLaurent.ok
end Go.Fw
