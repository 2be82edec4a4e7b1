/- The ties: the program's text comes to the plain functions. Nothing is assumed. -/
import Derived.Test.YtojjkghallginaaFwb
import Derived.Test.YtojjkghallginaaProg
import Derived.Test.YtojjkghallginaaPuFnExactMonomialLaurenta
set_option linter.unusedVariables false
set_option linter.unusedSimpArgs false
set_option maxRecDepth 100000
namespace Go.Fw
open Go.Proofs
def tab : Tab := lookTab [
  (2, ⟨false, .int .i64, [.int .i64 0], [], none, 8⟩),
  (3, ⟨false, .int .i64, [.int .i64 0], [], none, 8⟩),
  (4, ⟨false, .bool, [.bool false], [], none, 1⟩),
  (5, ⟨false, .int .u8, [.int .u8 0], [], none, 1⟩),
  (6, ⟨false, .int .u8, [.int .u8 0], [], none, 1⟩),
  (7, ⟨true, .pair (.int .i64) (.pair (.int .i64) (.pair (.bool) (.int .u8))), [.int .i64 0, .int .i64 0, .bool false, .int .u8 0], [(0, 1, false), (1, 1, false), (2, 1, false), (3, 1, false)], none, 24⟩),
  (8, ⟨true, .pair (.int .i64) (.pair (.int .i64) (.pair (.bool) (.int .u8))), [.int .i64 0, .int .i64 0, .bool false, .int .u8 0], [(0, 1, false), (1, 1, false), (2, 1, false), (3, 1, false)], none, 24⟩),
  (9, ⟨false, .str, [.str ByteArray.empty], [], none, 16⟩),
  (10, ⟨false, .str, [.str ByteArray.empty], [], none, 16⟩),
  (11, ⟨false, .str, [.str ByteArray.empty], [], none, 16⟩),
  (12, ⟨false, .int .u64, [.int .u64 0], [], none, 8⟩),
  (13, ⟨true, .pair (.str) (.int .u64), [.str ByteArray.empty, .int .u64 0], [(0, 1, false), (1, 1, false)], none, 24⟩),
  (14, ⟨true, .pair (.str) (.int .u64), [.str ByteArray.empty, .int .u64 0], [(0, 1, false), (1, 1, false)], none, 24⟩),
  (21, ⟨false, .int .i32, [.int .i32 0], [], none, 4⟩),
  (23, ⟨false, .sl 59 (.pair (.sl 3 (.int .i64)) (.int .i64)), [.nil], [], some 59, 24⟩),
  (24, ⟨true, .pair (.int .i64) (.sl 59 (.pair (.sl 3 (.int .i64)) (.int .i64))), [.int .i64 0, .nil], [(0, 1, false), (1, 1, false)], none, 32⟩),
  (25, ⟨true, .pair (.int .i64) (.sl 59 (.pair (.sl 3 (.int .i64)) (.int .i64))), [.int .i64 0, .nil], [(0, 1, false), (1, 1, false)], none, 32⟩),
  (30, ⟨false, .sl 3 (.int .i64), [.nil], [], some 3, 24⟩),
  (36, ⟨false, .sl 79 (.pair (.sl 3 (.int .i64)) (.int .i64)), [.nil], [], some 79, 24⟩),
  (37, ⟨true, .pair (.int .i64) (.sl 79 (.pair (.sl 3 (.int .i64)) (.int .i64))), [.int .i64 0, .nil], [(0, 1, false), (1, 1, false)], none, 32⟩),
  (38, ⟨true, .pair (.int .i64) (.sl 79 (.pair (.sl 3 (.int .i64)) (.int .i64))), [.int .i64 0, .nil], [(0, 1, false), (1, 1, false)], none, 32⟩),
  (43, ⟨true, .pair (.int .i64) (.pair (.int .i64) (.sl 3 (.int .i64))), [.int .i64 0, .int .i64 0, .nil], [(0, 1, false), (1, 1, false), (2, 1, false)], none, 40⟩),
  (44, ⟨true, .pair (.int .i64) (.pair (.int .i64) (.sl 3 (.int .i64))), [.int .i64 0, .int .i64 0, .nil], [(0, 1, false), (1, 1, false), (2, 1, false)], none, 40⟩),
  (47, ⟨true, .pair (.int .i64) (.pair (.int .i64) (.sl 3 (.int .i64))), [.int .i64 0, .int .i64 0, .nil], [(0, 1, false), (1, 1, false), (2, 1, false)], none, 40⟩),
  (58, ⟨true, .pair (.sl 3 (.int .i64)) (.int .i64), [.nil, .int .i64 0], [(0, 1, false), (1, 1, false)], none, 32⟩),
  (59, ⟨true, .pair (.sl 3 (.int .i64)) (.int .i64), [.nil, .int .i64 0], [(0, 1, false), (1, 1, false)], none, 32⟩),
  (71, ⟨false, .sl 4 (.bool), [.nil], [], some 4, 24⟩),
  (79, ⟨true, .pair (.sl 3 (.int .i64)) (.int .i64), [.nil, .int .i64 0], [(0, 1, false), (1, 1, false)], none, 32⟩),
  (92, ⟨false, .int .u32, [.int .u32 0], [], none, 4⟩),
  (93, ⟨false, .int .u8, [.int .u8 0], [], none, 1⟩),
  (94, ⟨false, .int .u8, [.int .u8 0], [], none, 1⟩),
  (97, ⟨false, .int .i32, [.int .i32 0], [], none, 4⟩),
  (98, ⟨false, .int .i32, [.int .i32 0], [], none, 4⟩)]
theorem tabOk : TOk Try.prog tab := TOk.of (by kernel_rfl)
end Go.Fw
set_option linter.unusedVariables false
set_option linter.unusedSimpArgs false
set_option maxRecDepth 100000
namespace Go.Fw
open Go.Proofs
/-! ### loop.example/g03115/laws.toIntS -/
noncomputable def f20sig : Sig := ⟨[⟨.sl 3 (.int .i64), false, false⟩], [⟨.sl 3 (.int .i64), false, false⟩]⟩
noncomputable def e20 : Entry := ⟨f20sig, (some fun X => laws_toIntS.P X.1), fun X => ((), ((laws_toIntS.g X.1), ()))⟩
noncomputable def f20G : Nat → Option Entry := (fun _ => none)
theorem f20GOk : GOk Try.prog f20G := GOk.nil
noncomputable def f20lE : Clean := ⟨[], [], [], [], []⟩
noncomputable def f20s0 (a0 : List Int) : St := initSt f20sig.ps (a0, ())
noncomputable def f20s1 (a0 : List Int) : St := stOf [(0, .c (.sn 3 (.int .i64) a0 none))] [] []
noncomputable def f20l1 : Clean := ⟨[0], [], [], [], []⟩
noncomputable def f20s2 (out3 : List Int) (a0 : List Int) : St := stOf [(0, .c (.sn 3 (.int .i64) a0 none)), (3, .c (.own 1000192))] [] [(1000192, (⟨3, .int .i64, out3, true, false⟩ : Row))]
noncomputable def f20l2 : Clean := ⟨[0, 3], [], [], [], [(⟨false, 3, 0⟩, 1000192)]⟩
noncomputable def f20s3 (out3 : List Int) (a0 : List Int) (i4 : Int) : St := stOf [(0, .c (.sn 3 (.int .i64) a0 none)), (3, .c (.own 1000192)), (4, .c (.int .i64 i4))] [] [(1000192, (⟨3, .int .i64, out3, true, false⟩ : Row))]
noncomputable def f20l3 : Clean := ⟨[0, 3, 4], [], [], [], [(⟨false, 3, 0⟩, 1000192)]⟩
noncomputable def f20s4 (out3 : List Int) : St := stOf [(3, .c (.own 1000192))] [] [(1000192, (⟨3, .int .i64, out3, true, false⟩ : Row))]
noncomputable def f20l4 : Clean := ⟨[3], [], [], [], [(⟨false, 3, 0⟩, 1000192)]⟩
noncomputable def f20s5 (t2 : List Int) : St := stOf [(2, .c (.own 1000128))] [] [(1000128, (⟨3, .int .i64, t2, true, false⟩ : Row))]
noncomputable def f20l5 : Clean := ⟨[2], [], [], [], [(⟨false, 2, 0⟩, 1000128)]⟩
noncomputable def f20B : Nat → Option Clean := lookL [(0, f20l4), (1000000, f20l5)]
noncomputable abbrev f20i {ρ : Type} (N : Nat) (c : Code) (p : Plan) (σ : St) (K : KT ρ) : Option ρ := iCode f20G tab f20B N c p σ K
noncomputable def f20c1 := codeAt (bodyOf Try.f20) [0]
theorem f20t1 {ρ : Type} (N : Nat) (a0 : List Int) (K : KT ρ) : f20i N f20c1 .n (f20s0 a0) (joinK (some f20l1) K) =
  laws_toIntS.Z1 N a0 (fun a0 => K .nrm (f20s1 a0)) := by kernel_rfl
noncomputable def f20c3 := codeAt (bodyOf Try.f20) [1,0]
theorem f20t3 {ρ : Type} (N : Nat) (a0 : List Int) (K : KT ρ) : f20i N f20c3 .n (f20s1 a0) (joinK (some f20l2) K) =
  laws_toIntS.Z3 N a0 (fun out3 a0 => K .nrm (f20s2 out3 a0)) := by kernel_rfl
noncomputable def f20c6 := codeAt (bodyOf Try.f20) [1,1,0,0]
theorem f20t6 {ρ : Type} (N : Nat) (out3 : List Int) (a0 : List Int) (K : KT ρ) : f20i N f20c6 .n (f20s2 out3 a0) (joinK (some f20l3) K) =
  laws_toIntS.Z6 N out3 a0 (fun out3 a0 i4 => K .nrm (f20s3 out3 a0 i4)) := by kernel_rfl
noncomputable def f20c9 := codeAt (bodyOf Try.f20) [1,1,0,1,0,0]
theorem f20t9 {ρ : Type} (N : Nat) (out3 : List Int) (a0 : List Int) (i4 : Int) (K : KT ρ) : f20i N f20c9 .n (f20s3 out3 a0 i4) (joinK (some f20l3) K) =
  laws_toIntS.Z9 N out3 a0 i4 (fun out3 a0 i4 => K .nrm (f20s3 out3 a0 i4)) (fun out3 => K (.exit 0) (f20s4 out3)) := by kernel_rfl
noncomputable def f20c8 := codeAt (bodyOf Try.f20) [1,1,0,1,0]
noncomputable def f20p8 : Plan := .mk none (some f20l3) .n .n
noncomputable abbrev f20w8 {ρ : Type} (N : Nat) (M : Nat) (σ : St) (K : KT ρ) : Option ρ := loopC (fun σ K => f20i N f20c9 .n σ K) f20l3 M σ K
theorem f20t8L {ρ : Type} (N : Nat) (K : KT ρ) : ∀ (M : Nat) (out3 : List Int) (a0 : List Int) (i4 : Int), f20w8 N M (f20s3 out3 a0 i4) K =
  laws_toIntS.Z8L N (fun out3 => K (.exit 0) (f20s4 out3)) M out3 a0 i4
  | 0, _, _, _ => rfl
  | M + 1, out3, a0, i4 => viaRound (fun k => laws_toIntS.Z9 N out3 a0 i4 k (fun out3 => K (.exit 0) (f20s4 out3))) (f20t9 N out3 a0 i4 (seqK (fun σ => f20w8 N M σ K) K)) (funext fun out3 => funext fun a0 => funext fun i4 => f20t8L N K M out3 a0 i4) (by kernel_rfl) (by kernel_rfl)
theorem f20t8 {ρ : Type} (N : Nat) (out3 : List Int) (a0 : List Int) (i4 : Int) (K : KT ρ) : f20i N f20c8 f20p8 (f20s3 out3 a0 i4) (joinK (some f20l4) K) =
  laws_toIntS.Z8 N out3 a0 i4 (fun out3 => K (.exit 0) (f20s4 out3)) :=
  viaLoop (by kernel_rfl) (by kernel_rfl) (σ' := f20s3 out3 a0 i4) (by kernel_rfl) (f20t8L N (joinK (some f20l4) K) N out3 a0 i4) (by kernel_rfl)
noncomputable def f20c7 := codeAt (bodyOf Try.f20) [1,1,0,1]
noncomputable def f20p7 : Plan := .mk (some f20l4) none f20p8 .n
theorem f20t7 {ρ : Type} (N : Nat) (out3 : List Int) (a0 : List Int) (i4 : Int) (K : KT ρ) : f20i N f20c7 f20p7 (f20s3 out3 a0 i4) (joinK (some f20l4) K) =
  laws_toIntS.Z7 N out3 a0 i4 (fun out3 => K .nrm (f20s4 out3)) :=
  viaBlock (by kernel_rfl) (by kernel_rfl) (f20t8 N out3 a0 i4 (blockK 0 (joinK (some f20l4) K))) (by kernel_rfl)
noncomputable def f20c5 := codeAt (bodyOf Try.f20) [1,1,0]
noncomputable def f20p5 : Plan := .mk (some f20l3) none .n f20p7
theorem f20t5 {ρ : Type} (N : Nat) (out3 : List Int) (a0 : List Int) (K : KT ρ) : f20i N f20c5 f20p5 (f20s2 out3 a0) (joinK (some f20l4) K) =
  laws_toIntS.Z5 N out3 a0 (fun out3 => K .nrm (f20s4 out3)) :=
  viaSeq (fun k => laws_toIntS.Z6 N out3 a0 k) (by kernel_rfl) (by kernel_rfl) (f20t6 N out3 a0 (seqK (fun σ => f20i N f20c7 f20p7 σ (joinK (some f20l4) K)) (joinK (some f20l4) K))) (funext fun out3 => funext fun a0 => funext fun i4 => f20t7 N out3 a0 i4 K) (by kernel_rfl) (by kernel_rfl)
noncomputable def f20c10 := codeAt (bodyOf Try.f20) [1,1,1]
theorem f20t10 {ρ : Type} (N : Nat) (out3 : List Int) (K : KT ρ) : f20i N f20c10 .n (f20s4 out3) (joinK (some f20lE) K) =
  laws_toIntS.Z10 N out3 (fun t2 => K .ret (f20s5 t2)) := by kernel_rfl
noncomputable def f20c4 := codeAt (bodyOf Try.f20) [1,1]
noncomputable def f20p4 : Plan := .mk (some f20l4) none f20p5 .n
theorem f20t4 {ρ : Type} (N : Nat) (out3 : List Int) (a0 : List Int) (K : KT ρ) : f20i N f20c4 f20p4 (f20s2 out3 a0) (joinK (some f20lE) K) =
  laws_toIntS.Z4 N out3 a0 (fun t2 => K .ret (f20s5 t2)) :=
  viaSeq (fun k => laws_toIntS.Z5 N out3 a0 k) (by kernel_rfl) (by kernel_rfl) (f20t5 N out3 a0 (seqK (fun σ => f20i N f20c10 .n σ (joinK (some f20lE) K)) (joinK (some f20lE) K))) (funext fun out3 => f20t10 N out3 K) (by kernel_rfl) (by kernel_rfl)
noncomputable def f20c2 := codeAt (bodyOf Try.f20) [1]
noncomputable def f20p2 : Plan := .mk (some f20l2) none .n f20p4
theorem f20t2 {ρ : Type} (N : Nat) (a0 : List Int) (K : KT ρ) : f20i N f20c2 f20p2 (f20s1 a0) (joinK (some f20lE) K) =
  laws_toIntS.Z2 N a0 (fun t2 => K .ret (f20s5 t2)) :=
  viaSeq (fun k => laws_toIntS.Z3 N a0 k) (by kernel_rfl) (by kernel_rfl) (f20t3 N a0 (seqK (fun σ => f20i N f20c4 f20p4 σ (joinK (some f20lE) K)) (joinK (some f20lE) K))) (funext fun out3 => funext fun a0 => f20t4 N out3 a0 K) (by kernel_rfl) (by kernel_rfl)
noncomputable def f20c0 := codeAt (bodyOf Try.f20) []
noncomputable def f20p0 : Plan := .mk (some f20l1) none .n f20p2
theorem f20t0 {ρ : Type} (N : Nat) (a0 : List Int) (K : KT ρ) : f20i N f20c0 f20p0 (f20s0 a0) (joinK (some f20lE) K) =
  laws_toIntS.Z0 N a0 (fun t2 => K .ret (f20s5 t2)) :=
  viaSeq (fun k => laws_toIntS.Z1 N a0 k) (by kernel_rfl) (by kernel_rfl) (f20t1 N a0 (seqK (fun σ => f20i N f20c2 f20p2 σ (joinK (some f20lE) K)) (joinK (some f20lE) K))) (funext fun a0 => f20t2 N a0 K) (by kernel_rfl) (by kernel_rfl)
theorem f20m (N : Nat) (a0 : List Int) : f20i N f20c0 f20p0 (f20s0 a0) (joinK (some f20lE) (finK tab f20sig Try.f20.results.toList)) = laws_toIntS.Z0 N a0 (fun t2 => some ((), (t2, ()))) :=
  (f20t0 N a0 (finK tab f20sig Try.f20.results.toList)).trans (by kernel_rfl)
theorem f20ok (h : laws_toIntS.Spec) : EntryOk Try.prog 20 e20 :=
  entry_of_code (sig := f20sig) (c := f20c0) (pl := f20p0) (je := (some f20lE)) (B := f20B) Try.func20 (by kernel_rfl) (by kernel_rfl) (by kernel_rfl) tabOk f20GOk (by kernel_rfl) (by kernel_rfl) (by kernel_rfl) (by kernel_rfl) fun X hb hp => by
    obtain ⟨a0, _⟩ := X
    obtain ⟨N, h⟩ := h a0 hb.1 hp
    exact ⟨N, (f20m N a0).trans (h N (Nat.le_refl N))⟩
theorem e20ok : EntryOk Try.prog 20 e20 := f20ok laws_toIntS.ok
end Go.Fw
set_option linter.unusedVariables false
set_option linter.unusedSimpArgs false
set_option maxRecDepth 100000
namespace Go.Fw
open Go.Proofs
/-! ### loop.example/g03115/spec.l1Ints -/
noncomputable def f53sig : Sig := ⟨[⟨.sl 3 (.int .i64), false, false⟩], [⟨.sl 3 (.int .i64), false, false⟩]⟩
noncomputable def e53 : Entry := ⟨f53sig, (some fun X => spec_l1Ints.P X.1), fun X => ((), ((spec_l1Ints.g X.1), ()))⟩
noncomputable def f53G : Nat → Option Entry := (fun _ => none)
theorem f53GOk : GOk Try.prog f53G := GOk.nil
noncomputable def f53lE : Clean := ⟨[], [], [], [], []⟩
noncomputable def f53s0 (l0 : List Int) : St := initSt f53sig.ps (l0, ())
noncomputable def f53s1 (t2 : List Int) : St := stOf [(2, .c (.own 1000128))] [] [(1000128, (⟨3, .int .i64, t2, true, false⟩ : Row))]
noncomputable def f53l1 : Clean := ⟨[2], [], [], [], [(⟨false, 2, 0⟩, 1000128)]⟩
noncomputable def f53B : Nat → Option Clean := lookL [(1000000, f53l1)]
noncomputable abbrev f53i {ρ : Type} (N : Nat) (c : Code) (p : Plan) (σ : St) (K : KT ρ) : Option ρ := iCode f53G tab f53B N c p σ K
noncomputable def f53c0 := codeAt (bodyOf Try.f53) []
theorem f53t0 {ρ : Type} (N : Nat) (l0 : List Int) (K : KT ρ) : f53i N f53c0 .n (f53s0 l0) (joinK (some f53lE) K) =
  spec_l1Ints.Z0 N l0 (fun t2 => K .ret (f53s1 t2)) := by kernel_rfl
theorem f53m (N : Nat) (l0 : List Int) : f53i N f53c0 .n (f53s0 l0) (joinK (some f53lE) (finK tab f53sig Try.f53.results.toList)) = spec_l1Ints.Z0 N l0 (fun t2 => some ((), (t2, ()))) :=
  (f53t0 N l0 (finK tab f53sig Try.f53.results.toList)).trans (by kernel_rfl)
theorem f53ok (h : spec_l1Ints.Spec) : EntryOk Try.prog 53 e53 :=
  entry_of_code (sig := f53sig) (c := f53c0) (pl := .n) (je := (some f53lE)) (B := f53B) Try.func53 (by kernel_rfl) (by kernel_rfl) (by kernel_rfl) tabOk f53GOk (by kernel_rfl) (by kernel_rfl) (by kernel_rfl) (by kernel_rfl) fun X hb hp => by
    obtain ⟨l0, _⟩ := X
    obtain ⟨N, h⟩ := h l0 hb.1 hp
    exact ⟨N, (f53m N l0).trans (h N (Nat.le_refl N))⟩
theorem e53ok : EntryOk Try.prog 53 e53 := f53ok spec_l1Ints.ok
end Go.Fw
set_option linter.unusedVariables false
set_option linter.unusedSimpArgs false
set_option maxRecDepth 100000
namespace Go.Fw
open Go.Proofs
/-! ### loop.example/g03115/spec.l1In -/
noncomputable def f48sig : Sig := ⟨[⟨.int .i64, false, false⟩, ⟨.int .i64, false, false⟩, ⟨.int .i64, false, false⟩], [⟨.bool, false, false⟩]⟩
noncomputable def e48 : Entry := ⟨f48sig, none, fun X => ((), ((spec_l1In.g X.1 X.2.1 X.2.2.1), ()))⟩
noncomputable def f48G : Nat → Option Entry := (fun _ => none)
theorem f48GOk : GOk Try.prog f48G := GOk.nil
noncomputable def f48lE : Clean := ⟨[], [], [], [], []⟩
noncomputable def f48s0 (n0 : Int) (low1 : Int) (high2 : Int) : St := initSt f48sig.ps (n0, (low1, (high2, ())))
noncomputable def f48s1 (t6 : Bool) : St := stOf [(6, .c (.bool t6))] [] []
noncomputable def f48l1 : Clean := ⟨[6], [], [], [], []⟩
noncomputable def f48B : Nat → Option Clean := lookL [(1000000, f48l1)]
noncomputable abbrev f48i {ρ : Type} (N : Nat) (c : Code) (p : Plan) (σ : St) (K : KT ρ) : Option ρ := iCode f48G tab f48B N c p σ K
noncomputable def f48c0 := codeAt (bodyOf Try.f48) []
theorem f48t0 {ρ : Type} (N : Nat) (n0 : Int) (low1 : Int) (high2 : Int) (K : KT ρ) : f48i N f48c0 .n (f48s0 n0 low1 high2) (joinK (some f48lE) K) =
  spec_l1In.Z0 N n0 low1 high2 (fun t6 => K .ret (f48s1 t6)) := by kernel_rfl
theorem f48m (N : Nat) (n0 : Int) (low1 : Int) (high2 : Int) : f48i N f48c0 .n (f48s0 n0 low1 high2) (joinK (some f48lE) (finK tab f48sig Try.f48.results.toList)) = spec_l1In.Z0 N n0 low1 high2 (fun t6 => some ((), (t6, ()))) :=
  (f48t0 N n0 low1 high2 (finK tab f48sig Try.f48.results.toList)).trans (by kernel_rfl)
theorem f48ok (h : spec_l1In.Spec) : EntryOk Try.prog 48 e48 :=
  entry_of_code (sig := f48sig) (c := f48c0) (pl := .n) (je := (some f48lE)) (B := f48B) Try.func48 (by kernel_rfl) (by kernel_rfl) (by kernel_rfl) tabOk f48GOk (by kernel_rfl) (by kernel_rfl) (by kernel_rfl) (by kernel_rfl) fun X hb hp => by
    obtain ⟨n0, low1, high2, _⟩ := X
    obtain ⟨N, h⟩ := h n0 low1 high2
    exact ⟨N, (f48m N n0 low1 high2).trans (h N (Nat.le_refl N))⟩
theorem e48ok : EntryOk Try.prog 48 e48 := f48ok spec_l1In.ok
end Go.Fw
set_option linter.unusedVariables false
set_option linter.unusedSimpArgs false
set_option maxRecDepth 100000
namespace Go.Fw
open Go.Proofs
/-! ### loop.example/g03115/spec.l1Less -/
noncomputable def f79sig : Sig := ⟨[⟨.sl 3 (.int .i64), false, false⟩, ⟨.sl 3 (.int .i64), false, false⟩], [⟨.bool, false, false⟩]⟩
noncomputable def e79 : Entry := ⟨f79sig, none, fun X => ((), ((spec_l1Less.g X.1 X.2.1), ()))⟩
noncomputable def f79G : Nat → Option Entry := (fun _ => none)
theorem f79GOk : GOk Try.prog f79G := GOk.nil
noncomputable def f79lE : Clean := ⟨[], [], [], [], []⟩
noncomputable def f79s0 (a0 : List Int) (b1 : List Int) : St := initSt f79sig.ps (a0, (b1, ()))
noncomputable def f79s1 (a0 : List Int) (b1 : List Int) : St := stOf [(0, .c (.sn 3 (.int .i64) a0 none)), (1, .c (.sn 3 (.int .i64) b1 none))] [] []
noncomputable def f79l1 : Clean := ⟨[0, 1], [], [], [], []⟩
noncomputable def f79s2 (a0 : List Int) (b1 : List Int) (i5 : Int) : St := stOf [(0, .c (.sn 3 (.int .i64) a0 none)), (1, .c (.sn 3 (.int .i64) b1 none)), (5, .c (.int .i64 i5))] [] []
noncomputable def f79l2 : Clean := ⟨[0, 1, 5], [], [], [], []⟩
noncomputable def f79s3 (t4 : Bool) : St := stOf [(4, .c (.bool t4))] [] []
noncomputable def f79l3 : Clean := ⟨[4], [], [], [], []⟩
noncomputable def f79B : Nat → Option Clean := lookL [(0, f79l1), (1000000, f79l3)]
noncomputable abbrev f79i {ρ : Type} (N : Nat) (c : Code) (p : Plan) (σ : St) (K : KT ρ) : Option ρ := iCode f79G tab f79B N c p σ K
noncomputable def f79c1 := codeAt (bodyOf Try.f79) [0]
theorem f79t1 {ρ : Type} (N : Nat) (a0 : List Int) (b1 : List Int) (K : KT ρ) : f79i N f79c1 .n (f79s0 a0 b1) (joinK (some f79l1) K) =
  spec_l1Less.Z1 N a0 b1 (fun a0 b1 => K .nrm (f79s1 a0 b1)) := by kernel_rfl
noncomputable def f79c4 := codeAt (bodyOf Try.f79) [1,0,0]
theorem f79t4 {ρ : Type} (N : Nat) (a0 : List Int) (b1 : List Int) (K : KT ρ) : f79i N f79c4 .n (f79s1 a0 b1) (joinK (some f79l2) K) =
  spec_l1Less.Z4 N a0 b1 (fun a0 b1 i5 => K .nrm (f79s2 a0 b1 i5)) := by kernel_rfl
noncomputable def f79c7 := codeAt (bodyOf Try.f79) [1,0,1,0,0]
theorem f79t7 {ρ : Type} (N : Nat) (a0 : List Int) (b1 : List Int) (i5 : Int) (K : KT ρ) : f79i N f79c7 .n (f79s2 a0 b1 i5) (joinK (some f79l2) K) =
  spec_l1Less.Z7 N a0 b1 i5 (fun a0 b1 i5 => K .nrm (f79s2 a0 b1 i5)) (fun a0 b1 => K (.exit 0) (f79s1 a0 b1)) (fun t4 => K .ret (f79s3 t4)) := by kernel_rfl
noncomputable def f79c6 := codeAt (bodyOf Try.f79) [1,0,1,0]
noncomputable def f79p6 : Plan := .mk none (some f79l2) .n .n
noncomputable abbrev f79w6 {ρ : Type} (N : Nat) (M : Nat) (σ : St) (K : KT ρ) : Option ρ := loopC (fun σ K => f79i N f79c7 .n σ K) f79l2 M σ K
theorem f79t6L {ρ : Type} (N : Nat) (K : KT ρ) : ∀ (M : Nat) (a0 : List Int) (b1 : List Int) (i5 : Int), f79w6 N M (f79s2 a0 b1 i5) K =
  spec_l1Less.Z6L N (fun a0 b1 => K (.exit 0) (f79s1 a0 b1)) (fun t4 => K .ret (f79s3 t4)) M a0 b1 i5
  | 0, _, _, _ => rfl
  | M + 1, a0, b1, i5 => viaRound (fun k => spec_l1Less.Z7 N a0 b1 i5 k (fun a0 b1 => K (.exit 0) (f79s1 a0 b1)) (fun t4 => K .ret (f79s3 t4))) (f79t7 N a0 b1 i5 (seqK (fun σ => f79w6 N M σ K) K)) (funext fun a0 => funext fun b1 => funext fun i5 => f79t6L N K M a0 b1 i5) (by kernel_rfl) (by kernel_rfl)
theorem f79t6 {ρ : Type} (N : Nat) (a0 : List Int) (b1 : List Int) (i5 : Int) (K : KT ρ) : f79i N f79c6 f79p6 (f79s2 a0 b1 i5) (joinK (some f79l1) K) =
  spec_l1Less.Z6 N a0 b1 i5 (fun a0 b1 => K (.exit 0) (f79s1 a0 b1)) (fun t4 => K .ret (f79s3 t4)) :=
  viaLoop (by kernel_rfl) (by kernel_rfl) (σ' := f79s2 a0 b1 i5) (by kernel_rfl) (f79t6L N (joinK (some f79l1) K) N a0 b1 i5) (by kernel_rfl)
noncomputable def f79c5 := codeAt (bodyOf Try.f79) [1,0,1]
noncomputable def f79p5 : Plan := .mk (some f79l1) none f79p6 .n
theorem f79t5 {ρ : Type} (N : Nat) (a0 : List Int) (b1 : List Int) (i5 : Int) (K : KT ρ) : f79i N f79c5 f79p5 (f79s2 a0 b1 i5) (joinK (some f79l1) K) =
  spec_l1Less.Z5 N a0 b1 i5 (fun a0 b1 => K .nrm (f79s1 a0 b1)) (fun t4 => K .ret (f79s3 t4)) :=
  viaBlock (by kernel_rfl) (by kernel_rfl) (f79t6 N a0 b1 i5 (blockK 0 (joinK (some f79l1) K))) (by kernel_rfl)
noncomputable def f79c3 := codeAt (bodyOf Try.f79) [1,0]
noncomputable def f79p3 : Plan := .mk (some f79l2) none .n f79p5
theorem f79t3 {ρ : Type} (N : Nat) (a0 : List Int) (b1 : List Int) (K : KT ρ) : f79i N f79c3 f79p3 (f79s1 a0 b1) (joinK (some f79l1) K) =
  spec_l1Less.Z3 N a0 b1 (fun a0 b1 => K .nrm (f79s1 a0 b1)) (fun t4 => K .ret (f79s3 t4)) :=
  viaSeq (fun k => spec_l1Less.Z4 N a0 b1 k) (by kernel_rfl) (by kernel_rfl) (f79t4 N a0 b1 (seqK (fun σ => f79i N f79c5 f79p5 σ (joinK (some f79l1) K)) (joinK (some f79l1) K))) (funext fun a0 => funext fun b1 => funext fun i5 => f79t5 N a0 b1 i5 K) (by kernel_rfl) (by kernel_rfl)
noncomputable def f79c8 := codeAt (bodyOf Try.f79) [1,1]
theorem f79t8 {ρ : Type} (N : Nat) (a0 : List Int) (b1 : List Int) (K : KT ρ) : f79i N f79c8 .n (f79s1 a0 b1) (joinK (some f79lE) K) =
  spec_l1Less.Z8 N a0 b1 (fun t4 => K .ret (f79s3 t4)) := by kernel_rfl
noncomputable def f79c2 := codeAt (bodyOf Try.f79) [1]
noncomputable def f79p2 : Plan := .mk (some f79l1) none f79p3 .n
theorem f79t2 {ρ : Type} (N : Nat) (a0 : List Int) (b1 : List Int) (K : KT ρ) : f79i N f79c2 f79p2 (f79s1 a0 b1) (joinK (some f79lE) K) =
  spec_l1Less.Z2 N a0 b1 (fun t4 => K .ret (f79s3 t4)) :=
  viaSeq (fun k => spec_l1Less.Z3 N a0 b1 k (fun t4 => K .ret (f79s3 t4))) (by kernel_rfl) (by kernel_rfl) (f79t3 N a0 b1 (seqK (fun σ => f79i N f79c8 .n σ (joinK (some f79lE) K)) (joinK (some f79lE) K))) (funext fun a0 => funext fun b1 => f79t8 N a0 b1 K) (by kernel_rfl) (by kernel_rfl)
noncomputable def f79c0 := codeAt (bodyOf Try.f79) []
noncomputable def f79p0 : Plan := .mk (some f79l1) none .n f79p2
theorem f79t0 {ρ : Type} (N : Nat) (a0 : List Int) (b1 : List Int) (K : KT ρ) : f79i N f79c0 f79p0 (f79s0 a0 b1) (joinK (some f79lE) K) =
  spec_l1Less.Z0 N a0 b1 (fun t4 => K .ret (f79s3 t4)) :=
  viaSeq (fun k => spec_l1Less.Z1 N a0 b1 k) (by kernel_rfl) (by kernel_rfl) (f79t1 N a0 b1 (seqK (fun σ => f79i N f79c2 f79p2 σ (joinK (some f79lE) K)) (joinK (some f79lE) K))) (funext fun a0 => funext fun b1 => f79t2 N a0 b1 K) (by kernel_rfl) (by kernel_rfl)
theorem f79m (N : Nat) (a0 : List Int) (b1 : List Int) : f79i N f79c0 f79p0 (f79s0 a0 b1) (joinK (some f79lE) (finK tab f79sig Try.f79.results.toList)) = spec_l1Less.Z0 N a0 b1 (fun t4 => some ((), (t4, ()))) :=
  (f79t0 N a0 b1 (finK tab f79sig Try.f79.results.toList)).trans (by kernel_rfl)
theorem f79ok (h : spec_l1Less.Spec) : EntryOk Try.prog 79 e79 :=
  entry_of_code (sig := f79sig) (c := f79c0) (pl := f79p0) (je := (some f79lE)) (B := f79B) Try.func79 (by kernel_rfl) (by kernel_rfl) (by kernel_rfl) tabOk f79GOk (by kernel_rfl) (by kernel_rfl) (by kernel_rfl) (by kernel_rfl) fun X hb hp => by
    obtain ⟨a0, b1, _⟩ := X
    obtain ⟨N, h⟩ := h a0 b1 hb.1 hb.2.1
    exact ⟨N, (f79m N a0 b1).trans (h N (Nat.le_refl N))⟩
theorem e79ok : EntryOk Try.prog 79 e79 := f79ok spec_l1Less.ok
end Go.Fw
set_option linter.unusedVariables false
set_option linter.unusedSimpArgs false
set_option maxRecDepth 100000
namespace Go.Fw
open Go.Proofs
/-! ### loop.example/g03115/spec.l2Right -/
noncomputable def f54sig : Sig := ⟨[⟨.pair (.int .i64) (.sl 59 (.pair (.sl 3 (.int .i64)) (.int .i64))), true, false⟩], [⟨.bool, false, false⟩]⟩
noncomputable def e54 : Entry := ⟨f54sig, none, fun X => ((), ((spec_l2Right.g X.1), ()))⟩
noncomputable def f54G : Nat → Option Entry := addG (addG (fun _ => none) 48 e48) 79 e79
theorem f54GOk : GOk Try.prog f54G := ((GOk.nil).add e48ok (by kernel_rfl)).add e79ok (by kernel_rfl)
noncomputable def f54lE : Clean := ⟨[], [], [], [], []⟩
noncomputable def f54s0 (f0 : Int × List (List Int × Int)) : St := initSt f54sig.ps (f0, ())
noncomputable def f54s1 (f1_0 : Int) (f1_1 : List (List Int × Int)) : St := stOf [(1, .c (.box 1 0))] [(1, (25, [.int .i64 f1_0, .sn 59 (.pair (.sl 3 (.int .i64)) (.int .i64)) f1_1 none]))] []
noncomputable def f54l1 : Clean := ⟨[1], [1], [], [], []⟩
noncomputable def f54s2 (k3 : Int) (f1_0 : Int) (f1_1 : List (List Int × Int)) : St := stOf [(1, .c (.box 1 0)), (3, .c (.int .i64 k3))] [(1, (25, [.int .i64 f1_0, .sn 59 (.pair (.sl 3 (.int .i64)) (.int .i64)) f1_1 none]))] []
noncomputable def f54l2 : Clean := ⟨[1, 3], [1], [], [], []⟩
noncomputable def f54s3 (k3 : Int) (f1_0 : Int) (f1_1 : List (List Int × Int)) (t4_0 : List Int) (t4_1 : Int) : St := stOf [(1, .c (.box 1 0)), (3, .c (.int .i64 k3)), (4, .c (.box 4 0))] [(1, (25, [.int .i64 f1_0, .sn 59 (.pair (.sl 3 (.int .i64)) (.int .i64)) f1_1 none])), (4, (59, [.sn 3 (.int .i64) t4_0 none, .int .i64 t4_1]))] []
noncomputable def f54l3 : Clean := ⟨[1, 3, 4], [1, 4], [], [], []⟩
noncomputable def f54s4 (k3 : Int) (i5 : Int) (f1_0 : Int) (f1_1 : List (List Int × Int)) (t4_0 : List Int) (t4_1 : Int) : St := stOf [(1, .c (.box 1 0)), (3, .c (.int .i64 k3)), (4, .c (.box 4 0)), (5, .c (.int .i64 i5))] [(1, (25, [.int .i64 f1_0, .sn 59 (.pair (.sl 3 (.int .i64)) (.int .i64)) f1_1 none])), (4, (59, [.sn 3 (.int .i64) t4_0 none, .int .i64 t4_1]))] []
noncomputable def f54l4 : Clean := ⟨[1, 3, 4, 5], [1, 4], [], [], []⟩
noncomputable def f54s5  : St := stOf [] [] []
noncomputable def f54l5 : Clean := ⟨[], [], [], [], []⟩
noncomputable def f54s6 (t2 : Bool) : St := stOf [(2, .c (.bool t2))] [] []
noncomputable def f54l6 : Clean := ⟨[2], [], [], [], []⟩
noncomputable def f54B : Nat → Option Clean := lookL [(2, f54l2), (1, f54l2), (0, f54l5), (1000000, f54l6)]
noncomputable abbrev f54i {ρ : Type} (N : Nat) (c : Code) (p : Plan) (σ : St) (K : KT ρ) : Option ρ := iCode f54G tab f54B N c p σ K
noncomputable def f54c1 := codeAt (bodyOf Try.f54) [0]
theorem f54t1 {ρ : Type} (N : Nat) (f0 : Int × List (List Int × Int)) (K : KT ρ) : f54i N f54c1 .n (f54s0 f0) (joinK (some f54l1) K) =
  spec_l2Right.Z1 N f0 (fun f1_0 f1_1 => K .nrm (f54s1 f1_0 f1_1)) := by kernel_rfl
noncomputable def f54c3 := codeAt (bodyOf Try.f54) [1,0]
theorem f54t3 {ρ : Type} (N : Nat) (f1_0 : Int) (f1_1 : List (List Int × Int)) (K : KT ρ) : f54i N f54c3 .n (f54s1 f1_0 f1_1) (joinK (some f54l1) K) =
  spec_l2Right.Z3 N f1_0 f1_1 (fun f1_0 f1_1 => K .nrm (f54s1 f1_0 f1_1)) (fun t2 => K .ret (f54s6 t2)) := by kernel_rfl
noncomputable def f54c6 := codeAt (bodyOf Try.f54) [1,1,0,0]
theorem f54t6 {ρ : Type} (N : Nat) (f1_0 : Int) (f1_1 : List (List Int × Int)) (K : KT ρ) : f54i N f54c6 .n (f54s1 f1_0 f1_1) (joinK (some f54l2) K) =
  spec_l2Right.Z6 N f1_0 f1_1 (fun k3 f1_0 f1_1 => K .nrm (f54s2 k3 f1_0 f1_1)) := by kernel_rfl
noncomputable def f54c10 := codeAt (bodyOf Try.f54) [1,1,0,1,0,0,0]
theorem f54t10 {ρ : Type} (N : Nat) (k3 : Int) (f1_0 : Int) (f1_1 : List (List Int × Int)) (K : KT ρ) : f54i N f54c10 .n (f54s2 k3 f1_0 f1_1) (joinK (some f54l2) K) =
  spec_l2Right.Z10 N k3 f1_0 f1_1 (fun k3 f1_0 f1_1 => K .nrm (f54s2 k3 f1_0 f1_1)) (K (.exit 0) f54s5) := by kernel_rfl
noncomputable def f54c14 := codeAt (bodyOf Try.f54) [1,1,0,1,0,0,1,0,0,0]
theorem f54t14 {ρ : Type} (N : Nat) (k3 : Int) (f1_0 : Int) (f1_1 : List (List Int × Int)) (K : KT ρ) : f54i N f54c14 .n (f54s2 k3 f1_0 f1_1) (joinK (some f54l3) K) =
  spec_l2Right.Z14 N k3 f1_0 f1_1 (fun k3 f1_0 f1_1 t4_0 t4_1 => K .nrm (f54s3 k3 f1_0 f1_1 t4_0 t4_1)) := by kernel_rfl
noncomputable def f54c16 := codeAt (bodyOf Try.f54) [1,1,0,1,0,0,1,0,0,1,0]
theorem f54t16 {ρ : Type} (N : Nat) (k3 : Int) (f1_0 : Int) (f1_1 : List (List Int × Int)) (t4_0 : List Int) (t4_1 : Int) (K : KT ρ) : f54i N f54c16 .n (f54s3 k3 f1_0 f1_1 t4_0 t4_1) (joinK (some f54l3) K) =
  spec_l2Right.Z16 N k3 f1_0 f1_1 t4_0 t4_1 (fun k3 f1_0 f1_1 t4_0 t4_1 => K .nrm (f54s3 k3 f1_0 f1_1 t4_0 t4_1)) (fun t2 => K .ret (f54s6 t2)) := by kernel_rfl
noncomputable def f54c18 := codeAt (bodyOf Try.f54) [1,1,0,1,0,0,1,0,0,1,1,0]
theorem f54t18 {ρ : Type} (N : Nat) (k3 : Int) (f1_0 : Int) (f1_1 : List (List Int × Int)) (t4_0 : List Int) (t4_1 : Int) (K : KT ρ) : f54i N f54c18 .n (f54s3 k3 f1_0 f1_1 t4_0 t4_1) (joinK (some f54l4) K) =
  spec_l2Right.Z18 N k3 f1_0 f1_1 t4_0 t4_1 (fun k3 i5 f1_0 f1_1 t4_0 t4_1 => K .nrm (f54s4 k3 i5 f1_0 f1_1 t4_0 t4_1)) := by kernel_rfl
noncomputable def f54c21 := codeAt (bodyOf Try.f54) [1,1,0,1,0,0,1,0,0,1,1,1,0,0]
theorem f54t21 {ρ : Type} (N : Nat) (k3 : Int) (i5 : Int) (f1_0 : Int) (f1_1 : List (List Int × Int)) (t4_0 : List Int) (t4_1 : Int) (K : KT ρ) : f54i N f54c21 .n (f54s4 k3 i5 f1_0 f1_1 t4_0 t4_1) (joinK (some f54l4) K) =
  spec_l2Right.Z21 N k3 i5 f1_0 f1_1 t4_0 t4_1 (fun k3 i5 f1_0 f1_1 t4_0 t4_1 => K .nrm (f54s4 k3 i5 f1_0 f1_1 t4_0 t4_1)) (fun k3 f1_0 f1_1 => K (.exit 2) (f54s2 k3 f1_0 f1_1)) (fun t2 => K .ret (f54s6 t2)) := by kernel_rfl
noncomputable def f54c20 := codeAt (bodyOf Try.f54) [1,1,0,1,0,0,1,0,0,1,1,1,0]
noncomputable def f54p20 : Plan := .mk none (some f54l4) .n .n
noncomputable abbrev f54w20 {ρ : Type} (N : Nat) (M : Nat) (σ : St) (K : KT ρ) : Option ρ := loopC (fun σ K => f54i N f54c21 .n σ K) f54l4 M σ K
theorem f54t20L {ρ : Type} (N : Nat) (K : KT ρ) : ∀ (M : Nat) (k3 : Int) (i5 : Int) (f1_0 : Int) (f1_1 : List (List Int × Int)) (t4_0 : List Int) (t4_1 : Int), f54w20 N M (f54s4 k3 i5 f1_0 f1_1 t4_0 t4_1) K =
  spec_l2Right.Z20L N (fun k3 f1_0 f1_1 => K (.exit 2) (f54s2 k3 f1_0 f1_1)) (fun t2 => K .ret (f54s6 t2)) M k3 i5 f1_0 f1_1 t4_0 t4_1
  | 0, _, _, _, _, _, _ => rfl
  | M + 1, k3, i5, f1_0, f1_1, t4_0, t4_1 => viaRound (fun k => spec_l2Right.Z21 N k3 i5 f1_0 f1_1 t4_0 t4_1 k (fun k3 f1_0 f1_1 => K (.exit 2) (f54s2 k3 f1_0 f1_1)) (fun t2 => K .ret (f54s6 t2))) (f54t21 N k3 i5 f1_0 f1_1 t4_0 t4_1 (seqK (fun σ => f54w20 N M σ K) K)) (funext fun k3 => funext fun i5 => funext fun f1_0 => funext fun f1_1 => funext fun t4_0 => funext fun t4_1 => f54t20L N K M k3 i5 f1_0 f1_1 t4_0 t4_1) (by kernel_rfl) (by kernel_rfl)
theorem f54t20 {ρ : Type} (N : Nat) (k3 : Int) (i5 : Int) (f1_0 : Int) (f1_1 : List (List Int × Int)) (t4_0 : List Int) (t4_1 : Int) (K : KT ρ) : f54i N f54c20 f54p20 (f54s4 k3 i5 f1_0 f1_1 t4_0 t4_1) (joinK (some f54l2) K) =
  spec_l2Right.Z20 N k3 i5 f1_0 f1_1 t4_0 t4_1 (fun k3 f1_0 f1_1 => K (.exit 2) (f54s2 k3 f1_0 f1_1)) (fun t2 => K .ret (f54s6 t2)) :=
  viaLoop (by kernel_rfl) (by kernel_rfl) (σ' := f54s4 k3 i5 f1_0 f1_1 t4_0 t4_1) (by kernel_rfl) (f54t20L N (joinK (some f54l2) K) N k3 i5 f1_0 f1_1 t4_0 t4_1) (by kernel_rfl)
noncomputable def f54c19 := codeAt (bodyOf Try.f54) [1,1,0,1,0,0,1,0,0,1,1,1]
noncomputable def f54p19 : Plan := .mk (some f54l2) none f54p20 .n
theorem f54t19 {ρ : Type} (N : Nat) (k3 : Int) (i5 : Int) (f1_0 : Int) (f1_1 : List (List Int × Int)) (t4_0 : List Int) (t4_1 : Int) (K : KT ρ) : f54i N f54c19 f54p19 (f54s4 k3 i5 f1_0 f1_1 t4_0 t4_1) (joinK (some f54l2) K) =
  spec_l2Right.Z19 N k3 i5 f1_0 f1_1 t4_0 t4_1 (fun k3 f1_0 f1_1 => K .nrm (f54s2 k3 f1_0 f1_1)) (fun t2 => K .ret (f54s6 t2)) :=
  viaBlock (by kernel_rfl) (by kernel_rfl) (f54t20 N k3 i5 f1_0 f1_1 t4_0 t4_1 (blockK 2 (joinK (some f54l2) K))) (by kernel_rfl)
noncomputable def f54c17 := codeAt (bodyOf Try.f54) [1,1,0,1,0,0,1,0,0,1,1]
noncomputable def f54p17 : Plan := .mk (some f54l4) none .n f54p19
theorem f54t17 {ρ : Type} (N : Nat) (k3 : Int) (f1_0 : Int) (f1_1 : List (List Int × Int)) (t4_0 : List Int) (t4_1 : Int) (K : KT ρ) : f54i N f54c17 f54p17 (f54s3 k3 f1_0 f1_1 t4_0 t4_1) (joinK (some f54l2) K) =
  spec_l2Right.Z17 N k3 f1_0 f1_1 t4_0 t4_1 (fun k3 f1_0 f1_1 => K .nrm (f54s2 k3 f1_0 f1_1)) (fun t2 => K .ret (f54s6 t2)) :=
  viaSeq (fun k => spec_l2Right.Z18 N k3 f1_0 f1_1 t4_0 t4_1 k) (by kernel_rfl) (by kernel_rfl) (f54t18 N k3 f1_0 f1_1 t4_0 t4_1 (seqK (fun σ => f54i N f54c19 f54p19 σ (joinK (some f54l2) K)) (joinK (some f54l2) K))) (funext fun k3 => funext fun i5 => funext fun f1_0 => funext fun f1_1 => funext fun t4_0 => funext fun t4_1 => f54t19 N k3 i5 f1_0 f1_1 t4_0 t4_1 K) (by kernel_rfl) (by kernel_rfl)
noncomputable def f54c15 := codeAt (bodyOf Try.f54) [1,1,0,1,0,0,1,0,0,1]
noncomputable def f54p15 : Plan := .mk (some f54l3) none .n f54p17
theorem f54t15 {ρ : Type} (N : Nat) (k3 : Int) (f1_0 : Int) (f1_1 : List (List Int × Int)) (t4_0 : List Int) (t4_1 : Int) (K : KT ρ) : f54i N f54c15 f54p15 (f54s3 k3 f1_0 f1_1 t4_0 t4_1) (joinK (some f54l2) K) =
  spec_l2Right.Z15 N k3 f1_0 f1_1 t4_0 t4_1 (fun k3 f1_0 f1_1 => K .nrm (f54s2 k3 f1_0 f1_1)) (fun t2 => K .ret (f54s6 t2)) :=
  viaSeq (fun k => spec_l2Right.Z16 N k3 f1_0 f1_1 t4_0 t4_1 k (fun t2 => K .ret (f54s6 t2))) (by kernel_rfl) (by kernel_rfl) (f54t16 N k3 f1_0 f1_1 t4_0 t4_1 (seqK (fun σ => f54i N f54c17 f54p17 σ (joinK (some f54l2) K)) (joinK (some f54l2) K))) (funext fun k3 => funext fun f1_0 => funext fun f1_1 => funext fun t4_0 => funext fun t4_1 => f54t17 N k3 f1_0 f1_1 t4_0 t4_1 K) (by kernel_rfl) (by kernel_rfl)
noncomputable def f54c13 := codeAt (bodyOf Try.f54) [1,1,0,1,0,0,1,0,0]
noncomputable def f54p13 : Plan := .mk (some f54l3) none .n f54p15
theorem f54t13 {ρ : Type} (N : Nat) (k3 : Int) (f1_0 : Int) (f1_1 : List (List Int × Int)) (K : KT ρ) : f54i N f54c13 f54p13 (f54s2 k3 f1_0 f1_1) (joinK (some f54l2) K) =
  spec_l2Right.Z13 N k3 f1_0 f1_1 (fun k3 f1_0 f1_1 => K .nrm (f54s2 k3 f1_0 f1_1)) (fun t2 => K .ret (f54s6 t2)) :=
  viaSeq (fun k => spec_l2Right.Z14 N k3 f1_0 f1_1 k) (by kernel_rfl) (by kernel_rfl) (f54t14 N k3 f1_0 f1_1 (seqK (fun σ => f54i N f54c15 f54p15 σ (joinK (some f54l2) K)) (joinK (some f54l2) K))) (funext fun k3 => funext fun f1_0 => funext fun f1_1 => funext fun t4_0 => funext fun t4_1 => f54t15 N k3 f1_0 f1_1 t4_0 t4_1 K) (by kernel_rfl) (by kernel_rfl)
noncomputable def f54c12 := codeAt (bodyOf Try.f54) [1,1,0,1,0,0,1,0]
noncomputable def f54p12 : Plan := .mk (some f54l2) none f54p13 .n
theorem f54t12 {ρ : Type} (N : Nat) (k3 : Int) (f1_0 : Int) (f1_1 : List (List Int × Int)) (K : KT ρ) : f54i N f54c12 f54p12 (f54s2 k3 f1_0 f1_1) (joinK (some f54l2) K) =
  spec_l2Right.Z12 N k3 f1_0 f1_1 (fun k3 f1_0 f1_1 => K .nrm (f54s2 k3 f1_0 f1_1)) (fun t2 => K .ret (f54s6 t2)) :=
  viaBlock (by kernel_rfl) (by kernel_rfl) (f54t13 N k3 f1_0 f1_1 (blockK 1 (joinK (some f54l2) K))) (by kernel_rfl)
noncomputable def f54c22 := codeAt (bodyOf Try.f54) [1,1,0,1,0,0,1,1]
theorem f54t22 {ρ : Type} (N : Nat) (k3 : Int) (f1_0 : Int) (f1_1 : List (List Int × Int)) (K : KT ρ) : f54i N f54c22 .n (f54s2 k3 f1_0 f1_1) (joinK (some f54l2) K) =
  spec_l2Right.Z22 N k3 f1_0 f1_1 (fun k3 f1_0 f1_1 => K .nrm (f54s2 k3 f1_0 f1_1)) := by kernel_rfl
noncomputable def f54c11 := codeAt (bodyOf Try.f54) [1,1,0,1,0,0,1]
noncomputable def f54p11 : Plan := .mk (some f54l2) none f54p12 .n
theorem f54t11 {ρ : Type} (N : Nat) (k3 : Int) (f1_0 : Int) (f1_1 : List (List Int × Int)) (K : KT ρ) : f54i N f54c11 f54p11 (f54s2 k3 f1_0 f1_1) (joinK (some f54l2) K) =
  spec_l2Right.Z11 N k3 f1_0 f1_1 (fun k3 f1_0 f1_1 => K .nrm (f54s2 k3 f1_0 f1_1)) (fun t2 => K .ret (f54s6 t2)) :=
  viaSeq (fun k => spec_l2Right.Z12 N k3 f1_0 f1_1 k (fun t2 => K .ret (f54s6 t2))) (by kernel_rfl) (by kernel_rfl) (f54t12 N k3 f1_0 f1_1 (seqK (fun σ => f54i N f54c22 .n σ (joinK (some f54l2) K)) (joinK (some f54l2) K))) (funext fun k3 => funext fun f1_0 => funext fun f1_1 => f54t22 N k3 f1_0 f1_1 K) (by kernel_rfl) (by kernel_rfl)
noncomputable def f54c9 := codeAt (bodyOf Try.f54) [1,1,0,1,0,0]
noncomputable def f54p9 : Plan := .mk (some f54l2) none .n f54p11
theorem f54t9 {ρ : Type} (N : Nat) (k3 : Int) (f1_0 : Int) (f1_1 : List (List Int × Int)) (K : KT ρ) : f54i N f54c9 f54p9 (f54s2 k3 f1_0 f1_1) (joinK (some f54l2) K) =
  spec_l2Right.Z9 N k3 f1_0 f1_1 (fun k3 f1_0 f1_1 => K .nrm (f54s2 k3 f1_0 f1_1)) (K (.exit 0) f54s5) (fun t2 => K .ret (f54s6 t2)) :=
  viaSeq (fun k => spec_l2Right.Z10 N k3 f1_0 f1_1 k (K (.exit 0) f54s5)) (by kernel_rfl) (by kernel_rfl) (f54t10 N k3 f1_0 f1_1 (seqK (fun σ => f54i N f54c11 f54p11 σ (joinK (some f54l2) K)) (joinK (some f54l2) K))) (funext fun k3 => funext fun f1_0 => funext fun f1_1 => f54t11 N k3 f1_0 f1_1 K) (by kernel_rfl) (by kernel_rfl)
noncomputable def f54c8 := codeAt (bodyOf Try.f54) [1,1,0,1,0]
noncomputable def f54p8 : Plan := .mk none (some f54l2) f54p9 .n
noncomputable abbrev f54w8 {ρ : Type} (N : Nat) (M : Nat) (σ : St) (K : KT ρ) : Option ρ := loopC (fun σ K => f54i N f54c9 f54p9 σ K) f54l2 M σ K
theorem f54t8L {ρ : Type} (N : Nat) (K : KT ρ) : ∀ (M : Nat) (k3 : Int) (f1_0 : Int) (f1_1 : List (List Int × Int)), f54w8 N M (f54s2 k3 f1_0 f1_1) K =
  spec_l2Right.Z8L N (K (.exit 0) f54s5) (fun t2 => K .ret (f54s6 t2)) M k3 f1_0 f1_1
  | 0, _, _, _ => rfl
  | M + 1, k3, f1_0, f1_1 => viaRound (fun k => spec_l2Right.Z9 N k3 f1_0 f1_1 k (K (.exit 0) f54s5) (fun t2 => K .ret (f54s6 t2))) (f54t9 N k3 f1_0 f1_1 (seqK (fun σ => f54w8 N M σ K) K)) (funext fun k3 => funext fun f1_0 => funext fun f1_1 => f54t8L N K M k3 f1_0 f1_1) (by kernel_rfl) (by kernel_rfl)
theorem f54t8 {ρ : Type} (N : Nat) (k3 : Int) (f1_0 : Int) (f1_1 : List (List Int × Int)) (K : KT ρ) : f54i N f54c8 f54p8 (f54s2 k3 f1_0 f1_1) (joinK (some f54l5) K) =
  spec_l2Right.Z8 N k3 f1_0 f1_1 (K (.exit 0) f54s5) (fun t2 => K .ret (f54s6 t2)) :=
  viaLoop (by kernel_rfl) (by kernel_rfl) (σ' := f54s2 k3 f1_0 f1_1) (by kernel_rfl) (f54t8L N (joinK (some f54l5) K) N k3 f1_0 f1_1) (by kernel_rfl)
noncomputable def f54c7 := codeAt (bodyOf Try.f54) [1,1,0,1]
noncomputable def f54p7 : Plan := .mk (some f54l5) none f54p8 .n
theorem f54t7 {ρ : Type} (N : Nat) (k3 : Int) (f1_0 : Int) (f1_1 : List (List Int × Int)) (K : KT ρ) : f54i N f54c7 f54p7 (f54s2 k3 f1_0 f1_1) (joinK (some f54l5) K) =
  spec_l2Right.Z7 N k3 f1_0 f1_1 (K .nrm f54s5) (fun t2 => K .ret (f54s6 t2)) :=
  viaBlock (by kernel_rfl) (by kernel_rfl) (f54t8 N k3 f1_0 f1_1 (blockK 0 (joinK (some f54l5) K))) (by kernel_rfl)
noncomputable def f54c5 := codeAt (bodyOf Try.f54) [1,1,0]
noncomputable def f54p5 : Plan := .mk (some f54l2) none .n f54p7
theorem f54t5 {ρ : Type} (N : Nat) (f1_0 : Int) (f1_1 : List (List Int × Int)) (K : KT ρ) : f54i N f54c5 f54p5 (f54s1 f1_0 f1_1) (joinK (some f54l5) K) =
  spec_l2Right.Z5 N f1_0 f1_1 (K .nrm f54s5) (fun t2 => K .ret (f54s6 t2)) :=
  viaSeq (fun k => spec_l2Right.Z6 N f1_0 f1_1 k) (by kernel_rfl) (by kernel_rfl) (f54t6 N f1_0 f1_1 (seqK (fun σ => f54i N f54c7 f54p7 σ (joinK (some f54l5) K)) (joinK (some f54l5) K))) (funext fun k3 => funext fun f1_0 => funext fun f1_1 => f54t7 N k3 f1_0 f1_1 K) (by kernel_rfl) (by kernel_rfl)
noncomputable def f54c23 := codeAt (bodyOf Try.f54) [1,1,1]
theorem f54t23 {ρ : Type} (N : Nat)  (K : KT ρ) : f54i N f54c23 .n f54s5 (joinK (some f54lE) K) =
  spec_l2Right.Z23 N (fun t2 => K .ret (f54s6 t2)) := by kernel_rfl
noncomputable def f54c4 := codeAt (bodyOf Try.f54) [1,1]
noncomputable def f54p4 : Plan := .mk (some f54l5) none f54p5 .n
theorem f54t4 {ρ : Type} (N : Nat) (f1_0 : Int) (f1_1 : List (List Int × Int)) (K : KT ρ) : f54i N f54c4 f54p4 (f54s1 f1_0 f1_1) (joinK (some f54lE) K) =
  spec_l2Right.Z4 N f1_0 f1_1 (fun t2 => K .ret (f54s6 t2)) :=
  viaSeq (fun k => spec_l2Right.Z5 N f1_0 f1_1 k (fun t2 => K .ret (f54s6 t2))) (by kernel_rfl) (by kernel_rfl) (f54t5 N f1_0 f1_1 (seqK (fun σ => f54i N f54c23 .n σ (joinK (some f54lE) K)) (joinK (some f54lE) K))) (f54t23 N K) (by kernel_rfl) (by kernel_rfl)
noncomputable def f54c2 := codeAt (bodyOf Try.f54) [1]
noncomputable def f54p2 : Plan := .mk (some f54l1) none .n f54p4
theorem f54t2 {ρ : Type} (N : Nat) (f1_0 : Int) (f1_1 : List (List Int × Int)) (K : KT ρ) : f54i N f54c2 f54p2 (f54s1 f1_0 f1_1) (joinK (some f54lE) K) =
  spec_l2Right.Z2 N f1_0 f1_1 (fun t2 => K .ret (f54s6 t2)) :=
  viaSeq (fun k => spec_l2Right.Z3 N f1_0 f1_1 k (fun t2 => K .ret (f54s6 t2))) (by kernel_rfl) (by kernel_rfl) (f54t3 N f1_0 f1_1 (seqK (fun σ => f54i N f54c4 f54p4 σ (joinK (some f54lE) K)) (joinK (some f54lE) K))) (funext fun f1_0 => funext fun f1_1 => f54t4 N f1_0 f1_1 K) (by kernel_rfl) (by kernel_rfl)
noncomputable def f54c0 := codeAt (bodyOf Try.f54) []
noncomputable def f54p0 : Plan := .mk (some f54l1) none .n f54p2
theorem f54t0 {ρ : Type} (N : Nat) (f0 : Int × List (List Int × Int)) (K : KT ρ) : f54i N f54c0 f54p0 (f54s0 f0) (joinK (some f54lE) K) =
  spec_l2Right.Z0 N f0 (fun t2 => K .ret (f54s6 t2)) :=
  viaSeq (fun k => spec_l2Right.Z1 N f0 k) (by kernel_rfl) (by kernel_rfl) (f54t1 N f0 (seqK (fun σ => f54i N f54c2 f54p2 σ (joinK (some f54lE) K)) (joinK (some f54lE) K))) (funext fun f1_0 => funext fun f1_1 => f54t2 N f1_0 f1_1 K) (by kernel_rfl) (by kernel_rfl)
theorem f54m (N : Nat) (f0 : Int × List (List Int × Int)) : f54i N f54c0 f54p0 (f54s0 f0) (joinK (some f54lE) (finK tab f54sig Try.f54.results.toList)) = spec_l2Right.Z0 N f0 (fun t2 => some ((), (t2, ()))) :=
  (f54t0 N f0 (finK tab f54sig Try.f54.results.toList)).trans (by kernel_rfl)
theorem f54ok (h : spec_l2Right.Spec) : EntryOk Try.prog 54 e54 :=
  entry_of_code (sig := f54sig) (c := f54c0) (pl := f54p0) (je := (some f54lE)) (B := f54B) Try.func54 (by kernel_rfl) (by kernel_rfl) (by kernel_rfl) tabOk f54GOk (by kernel_rfl) (by kernel_rfl) (by kernel_rfl) (by kernel_rfl) fun X hb hp => by
    obtain ⟨f0, _⟩ := X
    obtain ⟨N, h⟩ := h f0 hb.1
    exact ⟨N, (f54m N f0).trans (h N (Nat.le_refl N))⟩
theorem e54ok : EntryOk Try.prog 54 e54 := f54ok spec_l2Right.ok
end Go.Fw
set_option linter.unusedVariables false
set_option linter.unusedSimpArgs false
set_option maxRecDepth 100000
namespace Go.Fw
open Go.Proofs
/-! ### loop.example/g03115/spec.MonomialLaurent -/
noncomputable def f19sig : Sig := ⟨[⟨.sl 3 (.int .i64), false, false⟩], [⟨.pair (.int .i64) (.sl 59 (.pair (.sl 3 (.int .i64)) (.int .i64))), true, false⟩]⟩
noncomputable def e19 : Entry := ⟨f19sig, (some fun X => spec_MonomialLaurent.P X.1), fun X => ((), ((spec_MonomialLaurent.g X.1), ()))⟩
noncomputable def f19G : Nat → Option Entry := addG (addG (fun _ => none) 53 e53) 54 e54
theorem f19GOk : GOk Try.prog f19G := ((GOk.nil).add e53ok (by kernel_rfl)).add e54ok (by kernel_rfl)
noncomputable def f19lE : Clean := ⟨[], [], [], [], []⟩
noncomputable def f19s0 (exp0 : List Int) : St := initSt f19sig.ps (exp0, ())
noncomputable def f19s1 (t2_1 : List (List Int × Int)) (t2_0 : Int) : St := stOf [(2, .c (.box 2 0))] [(2, (25, [.int .i64 t2_0, .own 20000129]))] [(20000129, (⟨59, .pair (.sl 3 (.int .i64)) (.int .i64), t2_1, true, false⟩ : Row))]
noncomputable def f19l1 : Clean := ⟨[2], [2], [⟨⟨true, 2, 1⟩, 30000000, 59, .pair (.sl 3 (.int .i64)) (.int .i64), true⟩], [], [(⟨true, 2, 1⟩, 20000129)]⟩
noncomputable def f19B : Nat → Option Clean := lookL [(1000000, f19l1)]
noncomputable abbrev f19i {ρ : Type} (N : Nat) (c : Code) (p : Plan) (σ : St) (K : KT ρ) : Option ρ := iCode f19G tab f19B N c p σ K
noncomputable def f19c0 := codeAt (bodyOf Try.f19) []
theorem f19t0 {ρ : Type} (N : Nat) (exp0 : List Int) (K : KT ρ) : f19i N f19c0 .n (f19s0 exp0) (joinK (some f19lE) K) =
  spec_MonomialLaurent.Z0 N exp0 (fun t2_1 t2_0 => K .ret (f19s1 t2_1 t2_0)) := by kernel_rfl
theorem f19m (N : Nat) (exp0 : List Int) : f19i N f19c0 .n (f19s0 exp0) (joinK (some f19lE) (finK tab f19sig Try.f19.results.toList)) = spec_MonomialLaurent.Z0 N exp0 (fun t2_1 t2_0 => some ((), ((t2_0, t2_1), ()))) :=
  (f19t0 N exp0 (finK tab f19sig Try.f19.results.toList)).trans (by kernel_rfl)
theorem f19ok (h : spec_MonomialLaurent.Spec) : EntryOk Try.prog 19 e19 :=
  entry_of_code (sig := f19sig) (c := f19c0) (pl := .n) (je := (some f19lE)) (B := f19B) Try.func19 (by kernel_rfl) (by kernel_rfl) (by kernel_rfl) tabOk f19GOk (by kernel_rfl) (by kernel_rfl) (by kernel_rfl) (by kernel_rfl) fun X hb hp => by
    obtain ⟨exp0, _⟩ := X
    obtain ⟨N, h⟩ := h exp0 hb.1 hp
    exact ⟨N, (f19m N exp0).trans (h N (Nat.le_refl N))⟩
theorem e19ok : EntryOk Try.prog 19 e19 := f19ok spec_MonomialLaurent.ok
end Go.Fw
set_option linter.unusedVariables false
set_option linter.unusedSimpArgs false
set_option maxRecDepth 100000
namespace Go.Fw
open Go.Proofs
/-! ### loop.example/g03115/impl.within -/
noncomputable def f49sig : Sig := ⟨[⟨.int .i64, false, false⟩, ⟨.int .i64, false, false⟩, ⟨.int .i64, false, false⟩], [⟨.bool, false, false⟩]⟩
noncomputable def e49 : Entry := ⟨f49sig, none, fun X => ((), ((impl_within.g X.1 X.2.1 X.2.2.1), ()))⟩
noncomputable def f49G : Nat → Option Entry := (fun _ => none)
theorem f49GOk : GOk Try.prog f49G := GOk.nil
noncomputable def f49lE : Clean := ⟨[], [], [], [], []⟩
noncomputable def f49s0 (n0 : Int) (low1 : Int) (high2 : Int) : St := initSt f49sig.ps (n0, (low1, (high2, ())))
noncomputable def f49s1 (t6 : Bool) : St := stOf [(6, .c (.bool t6))] [] []
noncomputable def f49l1 : Clean := ⟨[6], [], [], [], []⟩
noncomputable def f49B : Nat → Option Clean := lookL [(1000000, f49l1)]
noncomputable abbrev f49i {ρ : Type} (N : Nat) (c : Code) (p : Plan) (σ : St) (K : KT ρ) : Option ρ := iCode f49G tab f49B N c p σ K
noncomputable def f49c0 := codeAt (bodyOf Try.f49) []
theorem f49t0 {ρ : Type} (N : Nat) (n0 : Int) (low1 : Int) (high2 : Int) (K : KT ρ) : f49i N f49c0 .n (f49s0 n0 low1 high2) (joinK (some f49lE) K) =
  impl_within.Z0 N n0 low1 high2 (fun t6 => K .ret (f49s1 t6)) := by kernel_rfl
theorem f49m (N : Nat) (n0 : Int) (low1 : Int) (high2 : Int) : f49i N f49c0 .n (f49s0 n0 low1 high2) (joinK (some f49lE) (finK tab f49sig Try.f49.results.toList)) = impl_within.Z0 N n0 low1 high2 (fun t6 => some ((), (t6, ()))) :=
  (f49t0 N n0 low1 high2 (finK tab f49sig Try.f49.results.toList)).trans (by kernel_rfl)
theorem f49ok (h : impl_within.Spec) : EntryOk Try.prog 49 e49 :=
  entry_of_code (sig := f49sig) (c := f49c0) (pl := .n) (je := (some f49lE)) (B := f49B) Try.func49 (by kernel_rfl) (by kernel_rfl) (by kernel_rfl) tabOk f49GOk (by kernel_rfl) (by kernel_rfl) (by kernel_rfl) (by kernel_rfl) fun X hb hp => by
    obtain ⟨n0, low1, high2, _⟩ := X
    obtain ⟨N, h⟩ := h n0 low1 high2
    exact ⟨N, (f49m N n0 low1 high2).trans (h N (Nat.le_refl N))⟩
theorem e49ok : EntryOk Try.prog 49 e49 := f49ok impl_within.ok
end Go.Fw
set_option linter.unusedVariables false
set_option linter.unusedSimpArgs false
set_option maxRecDepth 100000
namespace Go.Fw
open Go.Proofs
/-! ### loop.example/g03115/impl.expOk$1 -/
noncomputable def f80sig : Sig := ⟨[⟨.int .i64, false, false⟩], [⟨.bool, false, false⟩]⟩
noncomputable def e80 : Entry := ⟨f80sig, none, fun X => ((), ((impl_expOk_1.g X.1), ()))⟩
noncomputable def f80G : Nat → Option Entry := addG (fun _ => none) 49 e49
theorem f80GOk : GOk Try.prog f80G := (GOk.nil).add e49ok (by kernel_rfl)
noncomputable def f80lE : Clean := ⟨[], [], [], [], []⟩
noncomputable def f80s0 (e0 : Int) : St := initSt f80sig.ps (e0, ())
noncomputable def f80s1 (t2 : Bool) : St := stOf [(2, .c (.bool t2))] [] []
noncomputable def f80l1 : Clean := ⟨[2], [], [], [], []⟩
noncomputable def f80B : Nat → Option Clean := lookL [(1000000, f80l1)]
noncomputable abbrev f80i {ρ : Type} (N : Nat) (c : Code) (p : Plan) (σ : St) (K : KT ρ) : Option ρ := iCode f80G tab f80B N c p σ K
noncomputable def f80c0 := codeAt (bodyOf Try.f80) []
theorem f80t0 {ρ : Type} (N : Nat) (e0 : Int) (K : KT ρ) : f80i N f80c0 .n (f80s0 e0) (joinK (some f80lE) K) =
  impl_expOk_1.Z0 N e0 (fun t2 => K .ret (f80s1 t2)) := by kernel_rfl
theorem f80m (N : Nat) (e0 : Int) : f80i N f80c0 .n (f80s0 e0) (joinK (some f80lE) (finK tab f80sig Try.f80.results.toList)) = impl_expOk_1.Z0 N e0 (fun t2 => some ((), (t2, ()))) :=
  (f80t0 N e0 (finK tab f80sig Try.f80.results.toList)).trans (by kernel_rfl)
theorem f80ok (h : impl_expOk_1.Spec) : EntryOk Try.prog 80 e80 :=
  entry_of_code (sig := f80sig) (c := f80c0) (pl := .n) (je := (some f80lE)) (B := f80B) Try.func80 (by kernel_rfl) (by kernel_rfl) (by kernel_rfl) tabOk f80GOk (by kernel_rfl) (by kernel_rfl) (by kernel_rfl) (by kernel_rfl) fun X hb hp => by
    obtain ⟨e0, _⟩ := X
    obtain ⟨N, h⟩ := h e0
    exact ⟨N, (f80m N e0).trans (h N (Nat.le_refl N))⟩
theorem e80ok : EntryOk Try.prog 80 e80 := f80ok impl_expOk_1.ok
end Go.Fw
set_option linter.unusedVariables false
set_option linter.unusedSimpArgs false
set_option maxRecDepth 100000
namespace Go.Fw
open Go.Proofs
/-! ### slices.IndexFunc[[]int,int] -/
noncomputable def f90sig : Sig := ⟨[⟨.sl 3 (.int .i64), false, false⟩, ⟨.fnc 80, false, false⟩], [⟨.int .i64, false, false⟩]⟩
noncomputable def e90 : Entry := ⟨f90sig, none, fun X => ((), ((slices_IndexFunc_int_int_expOk.g X.1 X.2.1), ()))⟩
noncomputable def f90G : Nat → Option Entry := addG (fun _ => none) 80 e80
theorem f90GOk : GOk Try.prog f90G := (GOk.nil).add e80ok (by kernel_rfl)
noncomputable def f90lE : Clean := ⟨[], [], [], [], []⟩
noncomputable def f90s0 (s0 : List Int) (f1 : Unit) : St := initSt f90sig.ps (s0, (f1, ()))
noncomputable def f90s1 (s0 : List Int) : St := stOf [(0, .c (.sn 3 (.int .i64) s0 none)), (1, .c (.fn 80 []))] [] []
noncomputable def f90l1 : Clean := ⟨[0, 1], [], [], [], []⟩
noncomputable def f90s2 (s0 : List Int) (t7 : Int) (t8 : Int) : St := stOf [(0, .c (.sn 3 (.int .i64) s0 none)), (1, .c (.fn 80 [])), (7, .c (.int .i64 t7)), (8, .c (.int .i64 t8))] [] []
noncomputable def f90l2 : Clean := ⟨[0, 1, 7, 8], [], [], [], []⟩
noncomputable def f90s3  : St := stOf [] [] []
noncomputable def f90l3 : Clean := ⟨[], [], [], [], []⟩
noncomputable def f90s4 (t4 : Int) : St := stOf [(4, .c (.int .i64 t4))] [] []
noncomputable def f90l4 : Clean := ⟨[4], [], [], [], []⟩
noncomputable def f90B : Nat → Option Clean := lookL [(0, f90l3), (1000000, f90l4)]
noncomputable abbrev f90i {ρ : Type} (N : Nat) (c : Code) (p : Plan) (σ : St) (K : KT ρ) : Option ρ := iCode f90G tab f90B N c p σ K
noncomputable def f90c1 := codeAt (bodyOf Try.f90) [0]
theorem f90t1 {ρ : Type} (N : Nat) (s0 : List Int) (f1 : Unit) (K : KT ρ) : f90i N f90c1 .n (f90s0 s0 f1) (joinK (some f90l1) K) =
  slices_IndexFunc_int_int_expOk.Z1 N s0 f1 (fun s0 => K .nrm (f90s1 s0)) := by kernel_rfl
noncomputable def f90c4 := codeAt (bodyOf Try.f90) [1,0,0]
theorem f90t4 {ρ : Type} (N : Nat) (s0 : List Int) (K : KT ρ) : f90i N f90c4 .n (f90s1 s0) (joinK (some f90l2) K) =
  slices_IndexFunc_int_int_expOk.Z4 N s0 (fun s0 t7 t8 => K .nrm (f90s2 s0 t7 t8)) := by kernel_rfl
noncomputable def f90c7 := codeAt (bodyOf Try.f90) [1,0,1,0,0]
theorem f90t7 {ρ : Type} (N : Nat) (s0 : List Int) (t7 : Int) (t8 : Int) (K : KT ρ) : f90i N f90c7 .n (f90s2 s0 t7 t8) (joinK (some f90l2) K) =
  slices_IndexFunc_int_int_expOk.Z7 N s0 t7 t8 (fun s0 t7 t8 => K .nrm (f90s2 s0 t7 t8)) (K (.exit 0) f90s3) (fun t4 => K .ret (f90s4 t4)) := by kernel_rfl
noncomputable def f90c6 := codeAt (bodyOf Try.f90) [1,0,1,0]
noncomputable def f90p6 : Plan := .mk none (some f90l2) .n .n
noncomputable abbrev f90w6 {ρ : Type} (N : Nat) (M : Nat) (σ : St) (K : KT ρ) : Option ρ := loopC (fun σ K => f90i N f90c7 .n σ K) f90l2 M σ K
theorem f90t6L {ρ : Type} (N : Nat) (K : KT ρ) : ∀ (M : Nat) (s0 : List Int) (t7 : Int) (t8 : Int), f90w6 N M (f90s2 s0 t7 t8) K =
  slices_IndexFunc_int_int_expOk.Z6L N (K (.exit 0) f90s3) (fun t4 => K .ret (f90s4 t4)) M s0 t7 t8
  | 0, _, _, _ => rfl
  | M + 1, s0, t7, t8 => viaRound (fun k => slices_IndexFunc_int_int_expOk.Z7 N s0 t7 t8 k (K (.exit 0) f90s3) (fun t4 => K .ret (f90s4 t4))) (f90t7 N s0 t7 t8 (seqK (fun σ => f90w6 N M σ K) K)) (funext fun s0 => funext fun t7 => funext fun t8 => f90t6L N K M s0 t7 t8) (by kernel_rfl) (by kernel_rfl)
theorem f90t6 {ρ : Type} (N : Nat) (s0 : List Int) (t7 : Int) (t8 : Int) (K : KT ρ) : f90i N f90c6 f90p6 (f90s2 s0 t7 t8) (joinK (some f90l3) K) =
  slices_IndexFunc_int_int_expOk.Z6 N s0 t7 t8 (K (.exit 0) f90s3) (fun t4 => K .ret (f90s4 t4)) :=
  viaLoop (by kernel_rfl) (by kernel_rfl) (σ' := f90s2 s0 t7 t8) (by kernel_rfl) (f90t6L N (joinK (some f90l3) K) N s0 t7 t8) (by kernel_rfl)
noncomputable def f90c5 := codeAt (bodyOf Try.f90) [1,0,1]
noncomputable def f90p5 : Plan := .mk (some f90l3) none f90p6 .n
theorem f90t5 {ρ : Type} (N : Nat) (s0 : List Int) (t7 : Int) (t8 : Int) (K : KT ρ) : f90i N f90c5 f90p5 (f90s2 s0 t7 t8) (joinK (some f90l3) K) =
  slices_IndexFunc_int_int_expOk.Z5 N s0 t7 t8 (K .nrm f90s3) (fun t4 => K .ret (f90s4 t4)) :=
  viaBlock (by kernel_rfl) (by kernel_rfl) (f90t6 N s0 t7 t8 (blockK 0 (joinK (some f90l3) K))) (by kernel_rfl)
noncomputable def f90c3 := codeAt (bodyOf Try.f90) [1,0]
noncomputable def f90p3 : Plan := .mk (some f90l2) none .n f90p5
theorem f90t3 {ρ : Type} (N : Nat) (s0 : List Int) (K : KT ρ) : f90i N f90c3 f90p3 (f90s1 s0) (joinK (some f90l3) K) =
  slices_IndexFunc_int_int_expOk.Z3 N s0 (K .nrm f90s3) (fun t4 => K .ret (f90s4 t4)) :=
  viaSeq (fun k => slices_IndexFunc_int_int_expOk.Z4 N s0 k) (by kernel_rfl) (by kernel_rfl) (f90t4 N s0 (seqK (fun σ => f90i N f90c5 f90p5 σ (joinK (some f90l3) K)) (joinK (some f90l3) K))) (funext fun s0 => funext fun t7 => funext fun t8 => f90t5 N s0 t7 t8 K) (by kernel_rfl) (by kernel_rfl)
noncomputable def f90c8 := codeAt (bodyOf Try.f90) [1,1]
theorem f90t8 {ρ : Type} (N : Nat)  (K : KT ρ) : f90i N f90c8 .n f90s3 (joinK (some f90lE) K) =
  slices_IndexFunc_int_int_expOk.Z8 N (fun t4 => K .ret (f90s4 t4)) := by kernel_rfl
noncomputable def f90c2 := codeAt (bodyOf Try.f90) [1]
noncomputable def f90p2 : Plan := .mk (some f90l3) none f90p3 .n
theorem f90t2 {ρ : Type} (N : Nat) (s0 : List Int) (K : KT ρ) : f90i N f90c2 f90p2 (f90s1 s0) (joinK (some f90lE) K) =
  slices_IndexFunc_int_int_expOk.Z2 N s0 (fun t4 => K .ret (f90s4 t4)) :=
  viaSeq (fun k => slices_IndexFunc_int_int_expOk.Z3 N s0 k (fun t4 => K .ret (f90s4 t4))) (by kernel_rfl) (by kernel_rfl) (f90t3 N s0 (seqK (fun σ => f90i N f90c8 .n σ (joinK (some f90lE) K)) (joinK (some f90lE) K))) (f90t8 N K) (by kernel_rfl) (by kernel_rfl)
noncomputable def f90c0 := codeAt (bodyOf Try.f90) []
noncomputable def f90p0 : Plan := .mk (some f90l1) none .n f90p2
theorem f90t0 {ρ : Type} (N : Nat) (s0 : List Int) (f1 : Unit) (K : KT ρ) : f90i N f90c0 f90p0 (f90s0 s0 f1) (joinK (some f90lE) K) =
  slices_IndexFunc_int_int_expOk.Z0 N s0 f1 (fun t4 => K .ret (f90s4 t4)) :=
  viaSeq (fun k => slices_IndexFunc_int_int_expOk.Z1 N s0 f1 k) (by kernel_rfl) (by kernel_rfl) (f90t1 N s0 f1 (seqK (fun σ => f90i N f90c2 f90p2 σ (joinK (some f90lE) K)) (joinK (some f90lE) K))) (funext fun s0 => f90t2 N s0 K) (by kernel_rfl) (by kernel_rfl)
theorem f90m (N : Nat) (s0 : List Int) (f1 : Unit) : f90i N f90c0 f90p0 (f90s0 s0 f1) (joinK (some f90lE) (finK tab f90sig Try.f90.results.toList)) = slices_IndexFunc_int_int_expOk.Z0 N s0 f1 (fun t4 => some ((), (t4, ()))) :=
  (f90t0 N s0 f1 (finK tab f90sig Try.f90.results.toList)).trans (by kernel_rfl)
theorem f90ok (h : slices_IndexFunc_int_int_expOk.Spec) : EntryOk Try.prog 90 e90 :=
  entry_of_code (sig := f90sig) (c := f90c0) (pl := f90p0) (je := (some f90lE)) (B := f90B) Try.func90 (by kernel_rfl) (by kernel_rfl) (by kernel_rfl) tabOk f90GOk (by kernel_rfl) (by kernel_rfl) (by kernel_rfl) (by kernel_rfl) fun X hb hp => by
    obtain ⟨s0, f1, _⟩ := X
    obtain ⟨N, h⟩ := h s0 f1 hb.1
    exact ⟨N, (f90m N s0 f1).trans (h N (Nat.le_refl N))⟩
theorem e90ok : EntryOk Try.prog 90 e90 := f90ok slices_IndexFunc_int_int_expOk.ok
end Go.Fw
set_option linter.unusedVariables false
set_option linter.unusedSimpArgs false
set_option maxRecDepth 100000
namespace Go.Fw
open Go.Proofs
/-! ### slices.ContainsFunc[[]int,int] -/
noncomputable def f73sig : Sig := ⟨[⟨.sl 3 (.int .i64), false, false⟩, ⟨.fnc 80, false, false⟩], [⟨.bool, false, false⟩]⟩
noncomputable def e73 : Entry := ⟨f73sig, none, fun X => ((), ((slices_ContainsFunc_int_int_expOk.g X.1 X.2.1), ()))⟩
noncomputable def f73G : Nat → Option Entry := addG (fun _ => none) 90 e90
theorem f73GOk : GOk Try.prog f73G := (GOk.nil).add e90ok (by kernel_rfl)
noncomputable def f73lE : Clean := ⟨[], [], [], [], []⟩
noncomputable def f73s0 (s0 : List Int) (f1 : Unit) : St := initSt f73sig.ps (s0, (f1, ()))
noncomputable def f73s1 (t4 : Bool) : St := stOf [(4, .c (.bool t4))] [] []
noncomputable def f73l1 : Clean := ⟨[4], [], [], [], []⟩
noncomputable def f73B : Nat → Option Clean := lookL [(1000000, f73l1)]
noncomputable abbrev f73i {ρ : Type} (N : Nat) (c : Code) (p : Plan) (σ : St) (K : KT ρ) : Option ρ := iCode f73G tab f73B N c p σ K
noncomputable def f73c0 := codeAt (bodyOf Try.f73) []
theorem f73t0 {ρ : Type} (N : Nat) (s0 : List Int) (f1 : Unit) (K : KT ρ) : f73i N f73c0 .n (f73s0 s0 f1) (joinK (some f73lE) K) =
  slices_ContainsFunc_int_int_expOk.Z0 N s0 f1 (fun t4 => K .ret (f73s1 t4)) := by kernel_rfl
theorem f73m (N : Nat) (s0 : List Int) (f1 : Unit) : f73i N f73c0 .n (f73s0 s0 f1) (joinK (some f73lE) (finK tab f73sig Try.f73.results.toList)) = slices_ContainsFunc_int_int_expOk.Z0 N s0 f1 (fun t4 => some ((), (t4, ()))) :=
  (f73t0 N s0 f1 (finK tab f73sig Try.f73.results.toList)).trans (by kernel_rfl)
theorem f73ok (h : slices_ContainsFunc_int_int_expOk.Spec) : EntryOk Try.prog 73 e73 :=
  entry_of_code (sig := f73sig) (c := f73c0) (pl := .n) (je := (some f73lE)) (B := f73B) Try.func73 (by kernel_rfl) (by kernel_rfl) (by kernel_rfl) tabOk f73GOk (by kernel_rfl) (by kernel_rfl) (by kernel_rfl) (by kernel_rfl) fun X hb hp => by
    obtain ⟨s0, f1, _⟩ := X
    obtain ⟨N, h⟩ := h s0 f1 hb.1
    exact ⟨N, (f73m N s0 f1).trans (h N (Nat.le_refl N))⟩
theorem e73ok : EntryOk Try.prog 73 e73 := f73ok slices_ContainsFunc_int_int_expOk.ok
end Go.Fw
set_option linter.unusedVariables false
set_option linter.unusedSimpArgs false
set_option maxRecDepth 100000
namespace Go.Fw
open Go.Proofs
/-! ### loop.example/g03115/impl.expOk -/
noncomputable def f55sig : Sig := ⟨[⟨.sl 3 (.int .i64), false, false⟩, ⟨.int .i64, false, false⟩], [⟨.bool, false, false⟩]⟩
noncomputable def e55 : Entry := ⟨f55sig, none, fun X => ((), ((impl_expOk.g X.1 X.2.1), ()))⟩
noncomputable def f55G : Nat → Option Entry := addG (fun _ => none) 73 e73
theorem f55GOk : GOk Try.prog f55G := (GOk.nil).add e73ok (by kernel_rfl)
noncomputable def f55lE : Clean := ⟨[], [], [], [], []⟩
noncomputable def f55s0 (exp0 : List Int) (vars1 : Int) : St := initSt f55sig.ps (exp0, (vars1, ()))
noncomputable def f55s1 (t4 : Bool) : St := stOf [(4, .c (.bool t4))] [] []
noncomputable def f55l1 : Clean := ⟨[4], [], [], [], []⟩
noncomputable def f55B : Nat → Option Clean := lookL [(1000000, f55l1)]
noncomputable abbrev f55i {ρ : Type} (N : Nat) (c : Code) (p : Plan) (σ : St) (K : KT ρ) : Option ρ := iCode f55G tab f55B N c p σ K
noncomputable def f55c0 := codeAt (bodyOf Try.f55) []
theorem f55t0 {ρ : Type} (N : Nat) (exp0 : List Int) (vars1 : Int) (K : KT ρ) : f55i N f55c0 .n (f55s0 exp0 vars1) (joinK (some f55lE) K) =
  impl_expOk.Z0 N exp0 vars1 (fun t4 => K .ret (f55s1 t4)) := by kernel_rfl
theorem f55m (N : Nat) (exp0 : List Int) (vars1 : Int) : f55i N f55c0 .n (f55s0 exp0 vars1) (joinK (some f55lE) (finK tab f55sig Try.f55.results.toList)) = impl_expOk.Z0 N exp0 vars1 (fun t4 => some ((), (t4, ()))) :=
  (f55t0 N exp0 vars1 (finK tab f55sig Try.f55.results.toList)).trans (by kernel_rfl)
theorem f55ok (h : impl_expOk.Spec) : EntryOk Try.prog 55 e55 :=
  entry_of_code (sig := f55sig) (c := f55c0) (pl := .n) (je := (some f55lE)) (B := f55B) Try.func55 (by kernel_rfl) (by kernel_rfl) (by kernel_rfl) tabOk f55GOk (by kernel_rfl) (by kernel_rfl) (by kernel_rfl) (by kernel_rfl) fun X hb hp => by
    obtain ⟨exp0, vars1, _⟩ := X
    obtain ⟨N, h⟩ := h exp0 vars1 hb.1
    exact ⟨N, (f55m N exp0 vars1).trans (h N (Nat.le_refl N))⟩
theorem e55ok : EntryOk Try.prog 55 e55 := f55ok impl_expOk.ok
end Go.Fw
set_option linter.unusedVariables false
set_option linter.unusedSimpArgs false
set_option maxRecDepth 100000
namespace Go.Fw
open Go.Proofs
/-! ### slices.Clone[[]int,int] -/
noncomputable def f56sig : Sig := ⟨[⟨.sl 3 (.int .i64), false, false⟩], [⟨.sl 3 (.int .i64), false, false⟩]⟩
noncomputable def e56 : Entry := ⟨f56sig, (some fun X => slices_Clone_int_int.P X.1), fun X => ((), ((slices_Clone_int_int.g X.1), ()))⟩
noncomputable def f56G : Nat → Option Entry := (fun _ => none)
theorem f56GOk : GOk Try.prog f56G := GOk.nil
noncomputable def f56lE : Clean := ⟨[], [], [], [], []⟩
noncomputable def f56s0 (s0 : List Int) : St := initSt f56sig.ps (s0, ())
noncomputable def f56s1 (t2 : List Int) : St := stOf [(2, .c (.own 1000128))] [] [(1000128, (⟨3, .int .i64, t2, true, false⟩ : Row))]
noncomputable def f56l1 : Clean := ⟨[2], [], [⟨⟨false, 2, 0⟩, 30000000, 3, .int .i64, true⟩], [], [(⟨false, 2, 0⟩, 1000128)]⟩
noncomputable def f56B : Nat → Option Clean := lookL [(1000000, f56l1)]
noncomputable abbrev f56i {ρ : Type} (N : Nat) (c : Code) (p : Plan) (σ : St) (K : KT ρ) : Option ρ := iCode f56G tab f56B N c p σ K
noncomputable def f56c0 := codeAt (bodyOf Try.f56) []
theorem f56t0 {ρ : Type} (N : Nat) (s0 : List Int) (K : KT ρ) : f56i N f56c0 .n (f56s0 s0) (joinK (some f56lE) K) =
  slices_Clone_int_int.Z0 N s0 (fun t2 => K .ret (f56s1 t2)) := by kernel_rfl
theorem f56m (N : Nat) (s0 : List Int) : f56i N f56c0 .n (f56s0 s0) (joinK (some f56lE) (finK tab f56sig Try.f56.results.toList)) = slices_Clone_int_int.Z0 N s0 (fun t2 => some ((), (t2, ()))) :=
  (f56t0 N s0 (finK tab f56sig Try.f56.results.toList)).trans (by kernel_rfl)
theorem f56ok (h : slices_Clone_int_int.Spec) : EntryOk Try.prog 56 e56 :=
  entry_of_code (sig := f56sig) (c := f56c0) (pl := .n) (je := (some f56lE)) (B := f56B) Try.func56 (by kernel_rfl) (by kernel_rfl) (by kernel_rfl) tabOk f56GOk (by kernel_rfl) (by kernel_rfl) (by kernel_rfl) (by kernel_rfl) fun X hb hp => by
    obtain ⟨s0, _⟩ := X
    obtain ⟨N, h⟩ := h s0 hb.1 hp
    exact ⟨N, (f56m N s0).trans (h N (Nat.le_refl N))⟩
theorem e56ok : EntryOk Try.prog 56 e56 := f56ok slices_Clone_int_int.ok
end Go.Fw
set_option linter.unusedVariables false
set_option linter.unusedSimpArgs false
set_option maxRecDepth 100000
namespace Go.Fw
open Go.Proofs
/-! ### loop.example/g03115/impl.MonomialLaurent -/
noncomputable def f21sig : Sig := ⟨[⟨.sl 3 (.int .i64), false, false⟩], [⟨.pair (.int .i64) (.sl 59 (.pair (.sl 3 (.int .i64)) (.int .i64))), true, false⟩]⟩
noncomputable def e21 : Entry := ⟨f21sig, none, fun X => ((), ((impl_MonomialLaurent.g X.1), ()))⟩
noncomputable def f21G : Nat → Option Entry := addG (addG (addG (fun _ => none) 49 e49) 55 e55) 56 e56
theorem f21GOk : GOk Try.prog f21G := (((GOk.nil).add e49ok (by kernel_rfl)).add e55ok (by kernel_rfl)).add e56ok (by kernel_rfl)
noncomputable def f21lE : Clean := ⟨[], [], [], [], []⟩
noncomputable def f21s0 (exp0 : List Int) : St := initSt f21sig.ps (exp0, ())
noncomputable def f21s1 (t2_1 : List (List Int × Int)) (t2_0 : Int) : St := stOf [(2, .c (.box 2 0))] [(2, (25, [.int .i64 t2_0, .own 20000129]))] [(20000129, (⟨59, .pair (.sl 3 (.int .i64)) (.int .i64), t2_1, true, false⟩ : Row))]
noncomputable def f21l1 : Clean := ⟨[2], [2], [⟨⟨true, 2, 1⟩, 30000000, 59, .pair (.sl 3 (.int .i64)) (.int .i64), true⟩], [], [(⟨true, 2, 1⟩, 20000129)]⟩
noncomputable def f21B : Nat → Option Clean := lookL [(1000000, f21l1)]
noncomputable abbrev f21i {ρ : Type} (N : Nat) (c : Code) (p : Plan) (σ : St) (K : KT ρ) : Option ρ := iCode f21G tab f21B N c p σ K
noncomputable def f21c0 := codeAt (bodyOf Try.f21) []
theorem f21t0 {ρ : Type} (N : Nat) (exp0 : List Int) (K : KT ρ) : f21i N f21c0 .n (f21s0 exp0) (joinK (some f21lE) K) =
  impl_MonomialLaurent.Z0 N exp0 (fun t2_1 t2_0 => K .ret (f21s1 t2_1 t2_0)) := by kernel_rfl
theorem f21m (N : Nat) (exp0 : List Int) : f21i N f21c0 .n (f21s0 exp0) (joinK (some f21lE) (finK tab f21sig Try.f21.results.toList)) = impl_MonomialLaurent.Z0 N exp0 (fun t2_1 t2_0 => some ((), ((t2_0, t2_1), ()))) :=
  (f21t0 N exp0 (finK tab f21sig Try.f21.results.toList)).trans (by kernel_rfl)
theorem f21ok (h : impl_MonomialLaurent.Spec) : EntryOk Try.prog 21 e21 :=
  entry_of_code (sig := f21sig) (c := f21c0) (pl := .n) (je := (some f21lE)) (B := f21B) Try.func21 (by kernel_rfl) (by kernel_rfl) (by kernel_rfl) tabOk f21GOk (by kernel_rfl) (by kernel_rfl) (by kernel_rfl) (by kernel_rfl) fun X hb hp => by
    obtain ⟨exp0, _⟩ := X
    obtain ⟨N, h⟩ := h exp0 hb.1
    exact ⟨N, (f21m N exp0).trans (h N (Nat.le_refl N))⟩
theorem e21ok : EntryOk Try.prog 21 e21 := f21ok impl_MonomialLaurent.ok
end Go.Fw
set_option linter.unusedVariables false
set_option linter.unusedSimpArgs false
set_option maxRecDepth 100000
namespace Go.Fw
open Go.Proofs
/-! ### loop.example/g03115/laws.eqIntS -/
noncomputable def f22sig : Sig := ⟨[⟨.sl 3 (.int .i64), false, false⟩, ⟨.sl 3 (.int .i64), false, false⟩], [⟨.bool, false, false⟩]⟩
noncomputable def e22 : Entry := ⟨f22sig, none, fun X => ((), ((laws_eqIntS.g X.1 X.2.1), ()))⟩
noncomputable def f22G : Nat → Option Entry := (fun _ => none)
theorem f22GOk : GOk Try.prog f22G := GOk.nil
noncomputable def f22lE : Clean := ⟨[], [], [], [], []⟩
noncomputable def f22s0 (a0 : List Int) (b1 : List Int) : St := initSt f22sig.ps (a0, (b1, ()))
noncomputable def f22s1 (a0 : List Int) (b1 : List Int) : St := stOf [(0, .c (.sn 3 (.int .i64) a0 none)), (1, .c (.sn 3 (.int .i64) b1 none))] [] []
noncomputable def f22l1 : Clean := ⟨[0, 1], [], [], [], []⟩
noncomputable def f22s2 (a0 : List Int) (b1 : List Int) (i5 : Int) : St := stOf [(0, .c (.sn 3 (.int .i64) a0 none)), (1, .c (.sn 3 (.int .i64) b1 none)), (5, .c (.int .i64 i5))] [] []
noncomputable def f22l2 : Clean := ⟨[0, 1, 5], [], [], [], []⟩
noncomputable def f22s3  : St := stOf [] [] []
noncomputable def f22l3 : Clean := ⟨[], [], [], [], []⟩
noncomputable def f22s4 (t4 : Bool) : St := stOf [(4, .c (.bool t4))] [] []
noncomputable def f22l4 : Clean := ⟨[4], [], [], [], []⟩
noncomputable def f22B : Nat → Option Clean := lookL [(0, f22l3), (1000000, f22l4)]
noncomputable abbrev f22i {ρ : Type} (N : Nat) (c : Code) (p : Plan) (σ : St) (K : KT ρ) : Option ρ := iCode f22G tab f22B N c p σ K
noncomputable def f22c1 := codeAt (bodyOf Try.f22) [0]
theorem f22t1 {ρ : Type} (N : Nat) (a0 : List Int) (b1 : List Int) (K : KT ρ) : f22i N f22c1 .n (f22s0 a0 b1) (joinK (some f22l1) K) =
  laws_eqIntS.Z1 N a0 b1 (fun a0 b1 => K .nrm (f22s1 a0 b1)) := by kernel_rfl
noncomputable def f22c3 := codeAt (bodyOf Try.f22) [1,0]
theorem f22t3 {ρ : Type} (N : Nat) (a0 : List Int) (b1 : List Int) (K : KT ρ) : f22i N f22c3 .n (f22s1 a0 b1) (joinK (some f22l1) K) =
  laws_eqIntS.Z3 N a0 b1 (fun a0 b1 => K .nrm (f22s1 a0 b1)) (fun t4 => K .ret (f22s4 t4)) := by kernel_rfl
noncomputable def f22c6 := codeAt (bodyOf Try.f22) [1,1,0,0]
theorem f22t6 {ρ : Type} (N : Nat) (a0 : List Int) (b1 : List Int) (K : KT ρ) : f22i N f22c6 .n (f22s1 a0 b1) (joinK (some f22l2) K) =
  laws_eqIntS.Z6 N a0 b1 (fun a0 b1 i5 => K .nrm (f22s2 a0 b1 i5)) := by kernel_rfl
noncomputable def f22c9 := codeAt (bodyOf Try.f22) [1,1,0,1,0,0]
theorem f22t9 {ρ : Type} (N : Nat) (a0 : List Int) (b1 : List Int) (i5 : Int) (K : KT ρ) : f22i N f22c9 .n (f22s2 a0 b1 i5) (joinK (some f22l2) K) =
  laws_eqIntS.Z9 N a0 b1 i5 (fun a0 b1 i5 => K .nrm (f22s2 a0 b1 i5)) (K (.exit 0) f22s3) (fun t4 => K .ret (f22s4 t4)) := by kernel_rfl
noncomputable def f22c8 := codeAt (bodyOf Try.f22) [1,1,0,1,0]
noncomputable def f22p8 : Plan := .mk none (some f22l2) .n .n
noncomputable abbrev f22w8 {ρ : Type} (N : Nat) (M : Nat) (σ : St) (K : KT ρ) : Option ρ := loopC (fun σ K => f22i N f22c9 .n σ K) f22l2 M σ K
theorem f22t8L {ρ : Type} (N : Nat) (K : KT ρ) : ∀ (M : Nat) (a0 : List Int) (b1 : List Int) (i5 : Int), f22w8 N M (f22s2 a0 b1 i5) K =
  laws_eqIntS.Z8L N (K (.exit 0) f22s3) (fun t4 => K .ret (f22s4 t4)) M a0 b1 i5
  | 0, _, _, _ => rfl
  | M + 1, a0, b1, i5 => viaRound (fun k => laws_eqIntS.Z9 N a0 b1 i5 k (K (.exit 0) f22s3) (fun t4 => K .ret (f22s4 t4))) (f22t9 N a0 b1 i5 (seqK (fun σ => f22w8 N M σ K) K)) (funext fun a0 => funext fun b1 => funext fun i5 => f22t8L N K M a0 b1 i5) (by kernel_rfl) (by kernel_rfl)
theorem f22t8 {ρ : Type} (N : Nat) (a0 : List Int) (b1 : List Int) (i5 : Int) (K : KT ρ) : f22i N f22c8 f22p8 (f22s2 a0 b1 i5) (joinK (some f22l3) K) =
  laws_eqIntS.Z8 N a0 b1 i5 (K (.exit 0) f22s3) (fun t4 => K .ret (f22s4 t4)) :=
  viaLoop (by kernel_rfl) (by kernel_rfl) (σ' := f22s2 a0 b1 i5) (by kernel_rfl) (f22t8L N (joinK (some f22l3) K) N a0 b1 i5) (by kernel_rfl)
noncomputable def f22c7 := codeAt (bodyOf Try.f22) [1,1,0,1]
noncomputable def f22p7 : Plan := .mk (some f22l3) none f22p8 .n
theorem f22t7 {ρ : Type} (N : Nat) (a0 : List Int) (b1 : List Int) (i5 : Int) (K : KT ρ) : f22i N f22c7 f22p7 (f22s2 a0 b1 i5) (joinK (some f22l3) K) =
  laws_eqIntS.Z7 N a0 b1 i5 (K .nrm f22s3) (fun t4 => K .ret (f22s4 t4)) :=
  viaBlock (by kernel_rfl) (by kernel_rfl) (f22t8 N a0 b1 i5 (blockK 0 (joinK (some f22l3) K))) (by kernel_rfl)
noncomputable def f22c5 := codeAt (bodyOf Try.f22) [1,1,0]
noncomputable def f22p5 : Plan := .mk (some f22l2) none .n f22p7
theorem f22t5 {ρ : Type} (N : Nat) (a0 : List Int) (b1 : List Int) (K : KT ρ) : f22i N f22c5 f22p5 (f22s1 a0 b1) (joinK (some f22l3) K) =
  laws_eqIntS.Z5 N a0 b1 (K .nrm f22s3) (fun t4 => K .ret (f22s4 t4)) :=
  viaSeq (fun k => laws_eqIntS.Z6 N a0 b1 k) (by kernel_rfl) (by kernel_rfl) (f22t6 N a0 b1 (seqK (fun σ => f22i N f22c7 f22p7 σ (joinK (some f22l3) K)) (joinK (some f22l3) K))) (funext fun a0 => funext fun b1 => funext fun i5 => f22t7 N a0 b1 i5 K) (by kernel_rfl) (by kernel_rfl)
noncomputable def f22c10 := codeAt (bodyOf Try.f22) [1,1,1]
theorem f22t10 {ρ : Type} (N : Nat)  (K : KT ρ) : f22i N f22c10 .n f22s3 (joinK (some f22lE) K) =
  laws_eqIntS.Z10 N (fun t4 => K .ret (f22s4 t4)) := by kernel_rfl
noncomputable def f22c4 := codeAt (bodyOf Try.f22) [1,1]
noncomputable def f22p4 : Plan := .mk (some f22l3) none f22p5 .n
theorem f22t4 {ρ : Type} (N : Nat) (a0 : List Int) (b1 : List Int) (K : KT ρ) : f22i N f22c4 f22p4 (f22s1 a0 b1) (joinK (some f22lE) K) =
  laws_eqIntS.Z4 N a0 b1 (fun t4 => K .ret (f22s4 t4)) :=
  viaSeq (fun k => laws_eqIntS.Z5 N a0 b1 k (fun t4 => K .ret (f22s4 t4))) (by kernel_rfl) (by kernel_rfl) (f22t5 N a0 b1 (seqK (fun σ => f22i N f22c10 .n σ (joinK (some f22lE) K)) (joinK (some f22lE) K))) (f22t10 N K) (by kernel_rfl) (by kernel_rfl)
noncomputable def f22c2 := codeAt (bodyOf Try.f22) [1]
noncomputable def f22p2 : Plan := .mk (some f22l1) none .n f22p4
theorem f22t2 {ρ : Type} (N : Nat) (a0 : List Int) (b1 : List Int) (K : KT ρ) : f22i N f22c2 f22p2 (f22s1 a0 b1) (joinK (some f22lE) K) =
  laws_eqIntS.Z2 N a0 b1 (fun t4 => K .ret (f22s4 t4)) :=
  viaSeq (fun k => laws_eqIntS.Z3 N a0 b1 k (fun t4 => K .ret (f22s4 t4))) (by kernel_rfl) (by kernel_rfl) (f22t3 N a0 b1 (seqK (fun σ => f22i N f22c4 f22p4 σ (joinK (some f22lE) K)) (joinK (some f22lE) K))) (funext fun a0 => funext fun b1 => f22t4 N a0 b1 K) (by kernel_rfl) (by kernel_rfl)
noncomputable def f22c0 := codeAt (bodyOf Try.f22) []
noncomputable def f22p0 : Plan := .mk (some f22l1) none .n f22p2
theorem f22t0 {ρ : Type} (N : Nat) (a0 : List Int) (b1 : List Int) (K : KT ρ) : f22i N f22c0 f22p0 (f22s0 a0 b1) (joinK (some f22lE) K) =
  laws_eqIntS.Z0 N a0 b1 (fun t4 => K .ret (f22s4 t4)) :=
  viaSeq (fun k => laws_eqIntS.Z1 N a0 b1 k) (by kernel_rfl) (by kernel_rfl) (f22t1 N a0 b1 (seqK (fun σ => f22i N f22c2 f22p2 σ (joinK (some f22lE) K)) (joinK (some f22lE) K))) (funext fun a0 => funext fun b1 => f22t2 N a0 b1 K) (by kernel_rfl) (by kernel_rfl)
theorem f22m (N : Nat) (a0 : List Int) (b1 : List Int) : f22i N f22c0 f22p0 (f22s0 a0 b1) (joinK (some f22lE) (finK tab f22sig Try.f22.results.toList)) = laws_eqIntS.Z0 N a0 b1 (fun t4 => some ((), (t4, ()))) :=
  (f22t0 N a0 b1 (finK tab f22sig Try.f22.results.toList)).trans (by kernel_rfl)
theorem f22ok (h : laws_eqIntS.Spec) : EntryOk Try.prog 22 e22 :=
  entry_of_code (sig := f22sig) (c := f22c0) (pl := f22p0) (je := (some f22lE)) (B := f22B) Try.func22 (by kernel_rfl) (by kernel_rfl) (by kernel_rfl) tabOk f22GOk (by kernel_rfl) (by kernel_rfl) (by kernel_rfl) (by kernel_rfl) fun X hb hp => by
    obtain ⟨a0, b1, _⟩ := X
    obtain ⟨N, h⟩ := h a0 b1 hb.1 hb.2.1
    exact ⟨N, (f22m N a0 b1).trans (h N (Nat.le_refl N))⟩
theorem e22ok : EntryOk Try.prog 22 e22 := f22ok laws_eqIntS.ok
end Go.Fw
set_option linter.unusedVariables false
set_option linter.unusedSimpArgs false
set_option maxRecDepth 100000
namespace Go.Fw
open Go.Proofs
/-! ### loop.example/g03115/laws.eqTerm -/
noncomputable def f78sig : Sig := ⟨[⟨.pair (.sl 3 (.int .i64)) (.int .i64), true, false⟩, ⟨.pair (.sl 3 (.int .i64)) (.int .i64), true, false⟩], [⟨.bool, false, false⟩]⟩
noncomputable def e78 : Entry := ⟨f78sig, none, fun X => ((), ((laws_eqTerm.g X.1 X.2.1), ()))⟩
noncomputable def f78G : Nat → Option Entry := addG (fun _ => none) 22 e22
theorem f78GOk : GOk Try.prog f78G := (GOk.nil).add e22ok (by kernel_rfl)
noncomputable def f78lE : Clean := ⟨[], [], [], [], []⟩
noncomputable def f78s0 (a0 : List Int × Int) (b1 : List Int × Int) : St := initSt f78sig.ps (a0, (b1, ()))
noncomputable def f78s1 (t4 : Bool) : St := stOf [(4, .c (.bool t4))] [] []
noncomputable def f78l1 : Clean := ⟨[4], [], [], [], []⟩
noncomputable def f78B : Nat → Option Clean := lookL [(1000000, f78l1)]
noncomputable abbrev f78i {ρ : Type} (N : Nat) (c : Code) (p : Plan) (σ : St) (K : KT ρ) : Option ρ := iCode f78G tab f78B N c p σ K
noncomputable def f78c0 := codeAt (bodyOf Try.f78) []
theorem f78t0 {ρ : Type} (N : Nat) (a0 : List Int × Int) (b1 : List Int × Int) (K : KT ρ) : f78i N f78c0 .n (f78s0 a0 b1) (joinK (some f78lE) K) =
  laws_eqTerm.Z0 N a0 b1 (fun t4 => K .ret (f78s1 t4)) := by kernel_rfl
theorem f78m (N : Nat) (a0 : List Int × Int) (b1 : List Int × Int) : f78i N f78c0 .n (f78s0 a0 b1) (joinK (some f78lE) (finK tab f78sig Try.f78.results.toList)) = laws_eqTerm.Z0 N a0 b1 (fun t4 => some ((), (t4, ()))) :=
  (f78t0 N a0 b1 (finK tab f78sig Try.f78.results.toList)).trans (by kernel_rfl)
theorem f78ok (h : laws_eqTerm.Spec) : EntryOk Try.prog 78 e78 :=
  entry_of_code (sig := f78sig) (c := f78c0) (pl := .n) (je := (some f78lE)) (B := f78B) Try.func78 (by kernel_rfl) (by kernel_rfl) (by kernel_rfl) tabOk f78GOk (by kernel_rfl) (by kernel_rfl) (by kernel_rfl) (by kernel_rfl) fun X hb hp => by
    obtain ⟨a0, b1, _⟩ := X
    obtain ⟨N, h⟩ := h a0 b1 hb.1 hb.2.1
    exact ⟨N, (f78m N a0 b1).trans (h N (Nat.le_refl N))⟩
theorem e78ok : EntryOk Try.prog 78 e78 := f78ok laws_eqTerm.ok
end Go.Fw
set_option linter.unusedVariables false
set_option linter.unusedSimpArgs false
set_option maxRecDepth 100000
namespace Go.Fw
open Go.Proofs
/-! ### loop.example/g03115/laws.eqTermS -/
noncomputable def f50sig : Sig := ⟨[⟨.sl 59 (.pair (.sl 3 (.int .i64)) (.int .i64)), false, false⟩, ⟨.sl 59 (.pair (.sl 3 (.int .i64)) (.int .i64)), false, false⟩], [⟨.bool, false, false⟩]⟩
noncomputable def e50 : Entry := ⟨f50sig, none, fun X => ((), ((laws_eqTermS.g X.1 X.2.1), ()))⟩
noncomputable def f50G : Nat → Option Entry := addG (fun _ => none) 78 e78
theorem f50GOk : GOk Try.prog f50G := (GOk.nil).add e78ok (by kernel_rfl)
noncomputable def f50lE : Clean := ⟨[], [], [], [], []⟩
noncomputable def f50s0 (a0 : List (List Int × Int)) (b1 : List (List Int × Int)) : St := initSt f50sig.ps (a0, (b1, ()))
noncomputable def f50s1 (a0 : List (List Int × Int)) (b1 : List (List Int × Int)) : St := stOf [(0, .c (.sn 59 (.pair (.sl 3 (.int .i64)) (.int .i64)) a0 none)), (1, .c (.sn 59 (.pair (.sl 3 (.int .i64)) (.int .i64)) b1 none))] [] []
noncomputable def f50l1 : Clean := ⟨[0, 1], [], [], [], []⟩
noncomputable def f50s2 (a0 : List (List Int × Int)) (b1 : List (List Int × Int)) (i5 : Int) : St := stOf [(0, .c (.sn 59 (.pair (.sl 3 (.int .i64)) (.int .i64)) a0 none)), (1, .c (.sn 59 (.pair (.sl 3 (.int .i64)) (.int .i64)) b1 none)), (5, .c (.int .i64 i5))] [] []
noncomputable def f50l2 : Clean := ⟨[0, 1, 5], [], [], [], []⟩
noncomputable def f50s3  : St := stOf [] [] []
noncomputable def f50l3 : Clean := ⟨[], [], [], [], []⟩
noncomputable def f50s4 (t4 : Bool) : St := stOf [(4, .c (.bool t4))] [] []
noncomputable def f50l4 : Clean := ⟨[4], [], [], [], []⟩
noncomputable def f50B : Nat → Option Clean := lookL [(0, f50l3), (1000000, f50l4)]
noncomputable abbrev f50i {ρ : Type} (N : Nat) (c : Code) (p : Plan) (σ : St) (K : KT ρ) : Option ρ := iCode f50G tab f50B N c p σ K
noncomputable def f50c1 := codeAt (bodyOf Try.f50) [0]
theorem f50t1 {ρ : Type} (N : Nat) (a0 : List (List Int × Int)) (b1 : List (List Int × Int)) (K : KT ρ) : f50i N f50c1 .n (f50s0 a0 b1) (joinK (some f50l1) K) =
  laws_eqTermS.Z1 N a0 b1 (fun a0 b1 => K .nrm (f50s1 a0 b1)) := by kernel_rfl
noncomputable def f50c3 := codeAt (bodyOf Try.f50) [1,0]
theorem f50t3 {ρ : Type} (N : Nat) (a0 : List (List Int × Int)) (b1 : List (List Int × Int)) (K : KT ρ) : f50i N f50c3 .n (f50s1 a0 b1) (joinK (some f50l1) K) =
  laws_eqTermS.Z3 N a0 b1 (fun a0 b1 => K .nrm (f50s1 a0 b1)) (fun t4 => K .ret (f50s4 t4)) := by kernel_rfl
noncomputable def f50c6 := codeAt (bodyOf Try.f50) [1,1,0,0]
theorem f50t6 {ρ : Type} (N : Nat) (a0 : List (List Int × Int)) (b1 : List (List Int × Int)) (K : KT ρ) : f50i N f50c6 .n (f50s1 a0 b1) (joinK (some f50l2) K) =
  laws_eqTermS.Z6 N a0 b1 (fun a0 b1 i5 => K .nrm (f50s2 a0 b1 i5)) := by kernel_rfl
noncomputable def f50c9 := codeAt (bodyOf Try.f50) [1,1,0,1,0,0]
theorem f50t9 {ρ : Type} (N : Nat) (a0 : List (List Int × Int)) (b1 : List (List Int × Int)) (i5 : Int) (K : KT ρ) : f50i N f50c9 .n (f50s2 a0 b1 i5) (joinK (some f50l2) K) =
  laws_eqTermS.Z9 N a0 b1 i5 (fun a0 b1 i5 => K .nrm (f50s2 a0 b1 i5)) (K (.exit 0) f50s3) (fun t4 => K .ret (f50s4 t4)) := by kernel_rfl
noncomputable def f50c8 := codeAt (bodyOf Try.f50) [1,1,0,1,0]
noncomputable def f50p8 : Plan := .mk none (some f50l2) .n .n
noncomputable abbrev f50w8 {ρ : Type} (N : Nat) (M : Nat) (σ : St) (K : KT ρ) : Option ρ := loopC (fun σ K => f50i N f50c9 .n σ K) f50l2 M σ K
theorem f50t8L {ρ : Type} (N : Nat) (K : KT ρ) : ∀ (M : Nat) (a0 : List (List Int × Int)) (b1 : List (List Int × Int)) (i5 : Int), f50w8 N M (f50s2 a0 b1 i5) K =
  laws_eqTermS.Z8L N (K (.exit 0) f50s3) (fun t4 => K .ret (f50s4 t4)) M a0 b1 i5
  | 0, _, _, _ => rfl
  | M + 1, a0, b1, i5 => viaRound (fun k => laws_eqTermS.Z9 N a0 b1 i5 k (K (.exit 0) f50s3) (fun t4 => K .ret (f50s4 t4))) (f50t9 N a0 b1 i5 (seqK (fun σ => f50w8 N M σ K) K)) (funext fun a0 => funext fun b1 => funext fun i5 => f50t8L N K M a0 b1 i5) (by kernel_rfl) (by kernel_rfl)
theorem f50t8 {ρ : Type} (N : Nat) (a0 : List (List Int × Int)) (b1 : List (List Int × Int)) (i5 : Int) (K : KT ρ) : f50i N f50c8 f50p8 (f50s2 a0 b1 i5) (joinK (some f50l3) K) =
  laws_eqTermS.Z8 N a0 b1 i5 (K (.exit 0) f50s3) (fun t4 => K .ret (f50s4 t4)) :=
  viaLoop (by kernel_rfl) (by kernel_rfl) (σ' := f50s2 a0 b1 i5) (by kernel_rfl) (f50t8L N (joinK (some f50l3) K) N a0 b1 i5) (by kernel_rfl)
noncomputable def f50c7 := codeAt (bodyOf Try.f50) [1,1,0,1]
noncomputable def f50p7 : Plan := .mk (some f50l3) none f50p8 .n
theorem f50t7 {ρ : Type} (N : Nat) (a0 : List (List Int × Int)) (b1 : List (List Int × Int)) (i5 : Int) (K : KT ρ) : f50i N f50c7 f50p7 (f50s2 a0 b1 i5) (joinK (some f50l3) K) =
  laws_eqTermS.Z7 N a0 b1 i5 (K .nrm f50s3) (fun t4 => K .ret (f50s4 t4)) :=
  viaBlock (by kernel_rfl) (by kernel_rfl) (f50t8 N a0 b1 i5 (blockK 0 (joinK (some f50l3) K))) (by kernel_rfl)
noncomputable def f50c5 := codeAt (bodyOf Try.f50) [1,1,0]
noncomputable def f50p5 : Plan := .mk (some f50l2) none .n f50p7
theorem f50t5 {ρ : Type} (N : Nat) (a0 : List (List Int × Int)) (b1 : List (List Int × Int)) (K : KT ρ) : f50i N f50c5 f50p5 (f50s1 a0 b1) (joinK (some f50l3) K) =
  laws_eqTermS.Z5 N a0 b1 (K .nrm f50s3) (fun t4 => K .ret (f50s4 t4)) :=
  viaSeq (fun k => laws_eqTermS.Z6 N a0 b1 k) (by kernel_rfl) (by kernel_rfl) (f50t6 N a0 b1 (seqK (fun σ => f50i N f50c7 f50p7 σ (joinK (some f50l3) K)) (joinK (some f50l3) K))) (funext fun a0 => funext fun b1 => funext fun i5 => f50t7 N a0 b1 i5 K) (by kernel_rfl) (by kernel_rfl)
noncomputable def f50c10 := codeAt (bodyOf Try.f50) [1,1,1]
theorem f50t10 {ρ : Type} (N : Nat)  (K : KT ρ) : f50i N f50c10 .n f50s3 (joinK (some f50lE) K) =
  laws_eqTermS.Z10 N (fun t4 => K .ret (f50s4 t4)) := by kernel_rfl
noncomputable def f50c4 := codeAt (bodyOf Try.f50) [1,1]
noncomputable def f50p4 : Plan := .mk (some f50l3) none f50p5 .n
theorem f50t4 {ρ : Type} (N : Nat) (a0 : List (List Int × Int)) (b1 : List (List Int × Int)) (K : KT ρ) : f50i N f50c4 f50p4 (f50s1 a0 b1) (joinK (some f50lE) K) =
  laws_eqTermS.Z4 N a0 b1 (fun t4 => K .ret (f50s4 t4)) :=
  viaSeq (fun k => laws_eqTermS.Z5 N a0 b1 k (fun t4 => K .ret (f50s4 t4))) (by kernel_rfl) (by kernel_rfl) (f50t5 N a0 b1 (seqK (fun σ => f50i N f50c10 .n σ (joinK (some f50lE) K)) (joinK (some f50lE) K))) (f50t10 N K) (by kernel_rfl) (by kernel_rfl)
noncomputable def f50c2 := codeAt (bodyOf Try.f50) [1]
noncomputable def f50p2 : Plan := .mk (some f50l1) none .n f50p4
theorem f50t2 {ρ : Type} (N : Nat) (a0 : List (List Int × Int)) (b1 : List (List Int × Int)) (K : KT ρ) : f50i N f50c2 f50p2 (f50s1 a0 b1) (joinK (some f50lE) K) =
  laws_eqTermS.Z2 N a0 b1 (fun t4 => K .ret (f50s4 t4)) :=
  viaSeq (fun k => laws_eqTermS.Z3 N a0 b1 k (fun t4 => K .ret (f50s4 t4))) (by kernel_rfl) (by kernel_rfl) (f50t3 N a0 b1 (seqK (fun σ => f50i N f50c4 f50p4 σ (joinK (some f50lE) K)) (joinK (some f50lE) K))) (funext fun a0 => funext fun b1 => f50t4 N a0 b1 K) (by kernel_rfl) (by kernel_rfl)
noncomputable def f50c0 := codeAt (bodyOf Try.f50) []
noncomputable def f50p0 : Plan := .mk (some f50l1) none .n f50p2
theorem f50t0 {ρ : Type} (N : Nat) (a0 : List (List Int × Int)) (b1 : List (List Int × Int)) (K : KT ρ) : f50i N f50c0 f50p0 (f50s0 a0 b1) (joinK (some f50lE) K) =
  laws_eqTermS.Z0 N a0 b1 (fun t4 => K .ret (f50s4 t4)) :=
  viaSeq (fun k => laws_eqTermS.Z1 N a0 b1 k) (by kernel_rfl) (by kernel_rfl) (f50t1 N a0 b1 (seqK (fun σ => f50i N f50c2 f50p2 σ (joinK (some f50lE) K)) (joinK (some f50lE) K))) (funext fun a0 => funext fun b1 => f50t2 N a0 b1 K) (by kernel_rfl) (by kernel_rfl)
theorem f50m (N : Nat) (a0 : List (List Int × Int)) (b1 : List (List Int × Int)) : f50i N f50c0 f50p0 (f50s0 a0 b1) (joinK (some f50lE) (finK tab f50sig Try.f50.results.toList)) = laws_eqTermS.Z0 N a0 b1 (fun t4 => some ((), (t4, ()))) :=
  (f50t0 N a0 b1 (finK tab f50sig Try.f50.results.toList)).trans (by kernel_rfl)
theorem f50ok (h : laws_eqTermS.Spec) : EntryOk Try.prog 50 e50 :=
  entry_of_code (sig := f50sig) (c := f50c0) (pl := f50p0) (je := (some f50lE)) (B := f50B) Try.func50 (by kernel_rfl) (by kernel_rfl) (by kernel_rfl) tabOk f50GOk (by kernel_rfl) (by kernel_rfl) (by kernel_rfl) (by kernel_rfl) fun X hb hp => by
    obtain ⟨a0, b1, _⟩ := X
    obtain ⟨N, h⟩ := h a0 b1 hb.1 hb.2.1
    exact ⟨N, (f50m N a0 b1).trans (h N (Nat.le_refl N))⟩
theorem e50ok : EntryOk Try.prog 50 e50 := f50ok laws_eqTermS.ok
end Go.Fw
set_option linter.unusedVariables false
set_option linter.unusedSimpArgs false
set_option maxRecDepth 100000
namespace Go.Fw
open Go.Proofs
/-! ### loop.example/g03115/laws.eqLaurent -/
noncomputable def f16sig : Sig := ⟨[⟨.pair (.int .i64) (.sl 59 (.pair (.sl 3 (.int .i64)) (.int .i64))), true, false⟩, ⟨.pair (.int .i64) (.sl 59 (.pair (.sl 3 (.int .i64)) (.int .i64))), true, false⟩], [⟨.bool, false, false⟩]⟩
noncomputable def e16 : Entry := ⟨f16sig, none, fun X => ((), ((laws_eqLaurent.g X.1 X.2.1), ()))⟩
noncomputable def f16G : Nat → Option Entry := addG (fun _ => none) 50 e50
theorem f16GOk : GOk Try.prog f16G := (GOk.nil).add e50ok (by kernel_rfl)
noncomputable def f16lE : Clean := ⟨[], [], [], [], []⟩
noncomputable def f16s0 (a0 : Int × List (List Int × Int)) (b1 : Int × List (List Int × Int)) : St := initSt f16sig.ps (a0, (b1, ()))
noncomputable def f16s1 (t4 : Bool) : St := stOf [(4, .c (.bool t4))] [] []
noncomputable def f16l1 : Clean := ⟨[4], [], [], [], []⟩
noncomputable def f16B : Nat → Option Clean := lookL [(1000000, f16l1)]
noncomputable abbrev f16i {ρ : Type} (N : Nat) (c : Code) (p : Plan) (σ : St) (K : KT ρ) : Option ρ := iCode f16G tab f16B N c p σ K
noncomputable def f16c0 := codeAt (bodyOf Try.f16) []
theorem f16t0 {ρ : Type} (N : Nat) (a0 : Int × List (List Int × Int)) (b1 : Int × List (List Int × Int)) (K : KT ρ) : f16i N f16c0 .n (f16s0 a0 b1) (joinK (some f16lE) K) =
  laws_eqLaurent.Z0 N a0 b1 (fun t4 => K .ret (f16s1 t4)) := by kernel_rfl
theorem f16m (N : Nat) (a0 : Int × List (List Int × Int)) (b1 : Int × List (List Int × Int)) : f16i N f16c0 .n (f16s0 a0 b1) (joinK (some f16lE) (finK tab f16sig Try.f16.results.toList)) = laws_eqLaurent.Z0 N a0 b1 (fun t4 => some ((), (t4, ()))) :=
  (f16t0 N a0 b1 (finK tab f16sig Try.f16.results.toList)).trans (by kernel_rfl)
theorem f16ok (h : laws_eqLaurent.Spec) : EntryOk Try.prog 16 e16 :=
  entry_of_code (sig := f16sig) (c := f16c0) (pl := .n) (je := (some f16lE)) (B := f16B) Try.func16 (by kernel_rfl) (by kernel_rfl) (by kernel_rfl) tabOk f16GOk (by kernel_rfl) (by kernel_rfl) (by kernel_rfl) (by kernel_rfl) fun X hb hp => by
    obtain ⟨a0, b1, _⟩ := X
    obtain ⟨N, h⟩ := h a0 b1 hb.1 hb.2.1
    exact ⟨N, (f16m N a0 b1).trans (h N (Nat.le_refl N))⟩
theorem e16ok : EntryOk Try.prog 16 e16 := f16ok laws_eqLaurent.ok
end Go.Fw
set_option linter.unusedVariables false
set_option linter.unusedSimpArgs false
set_option maxRecDepth 100000
namespace Go.Fw
open Go.Proofs
/-! ### loop.example/g03115/laws.markIntS -/
noncomputable def f23sig : Sig := ⟨[⟨.sl 3 (.int .i64), false, true⟩, ⟨.int .i64, false, false⟩], [⟨.int .i64, false, false⟩]⟩
noncomputable def e23 : Entry := ⟨f23sig, none, fun X => ((laws_markIntS.g X.1 X.2.1).1, ((laws_markIntS.g X.1 X.2.1).2, ()))⟩
noncomputable def f23G : Nat → Option Entry := (fun _ => none)
theorem f23GOk : GOk Try.prog f23G := GOk.nil
noncomputable def f23lE : Clean := ⟨[], [], [], [], []⟩
noncomputable def f23s0 (a0 : List Int) (k1 : Int) : St := initSt f23sig.ps (a0, (k1, ()))
noncomputable def f23s1 (a0 : List Int) (k1 : Int) : St := stOf [(0, .c (.own 1000000)), (1, .c (.int .i64 k1)), (100000, .c (.own 1000000))] [] [(1000000, (⟨3, .int .i64, a0, true, false⟩ : Row))]
noncomputable def f23l1 : Clean := ⟨[0, 1, 100000], [], [], [], [(⟨false, 0, 0⟩, 1000000)]⟩
noncomputable def f23s2 (a0 : List Int) (k1 : Int) (i5 : Int) : St := stOf [(0, .c (.own 1000000)), (1, .c (.int .i64 k1)), (5, .c (.int .i64 i5)), (100000, .c (.own 1000000))] [] [(1000000, (⟨3, .int .i64, a0, true, false⟩ : Row))]
noncomputable def f23l2 : Clean := ⟨[0, 1, 5, 100000], [], [], [], [(⟨false, 0, 0⟩, 1000000)]⟩
noncomputable def f23s3 (io100000 : List Int) (k1 : Int) : St := stOf [(1, .c (.int .i64 k1)), (100000, .c (.own 7400000))] [] [(7400000, (⟨3, .int .i64, io100000, true, false⟩ : Row))]
noncomputable def f23l3 : Clean := ⟨[1, 100000], [], [], [], [(⟨false, 100000, 0⟩, 7400000)]⟩
noncomputable def f23s4 (io100000 : List Int) (t4 : Int) : St := stOf [(4, .c (.int .i64 t4)), (100000, .c (.own 7400000))] [] [(7400000, (⟨3, .int .i64, io100000, true, false⟩ : Row))]
noncomputable def f23l4 : Clean := ⟨[4, 100000], [], [], [], [(⟨false, 100000, 0⟩, 7400000)]⟩
noncomputable def f23B : Nat → Option Clean := lookL [(0, f23l3), (1000000, f23l4)]
noncomputable abbrev f23i {ρ : Type} (N : Nat) (c : Code) (p : Plan) (σ : St) (K : KT ρ) : Option ρ := iCode f23G tab f23B N c p σ K
noncomputable def f23c1 := codeAt (bodyOf Try.f23) [0]
theorem f23t1 {ρ : Type} (N : Nat) (a0 : List Int) (k1 : Int) (K : KT ρ) : f23i N f23c1 .n (f23s0 a0 k1) (joinK (some f23l1) K) =
  laws_markIntS.Z1 N a0 k1 (fun a0 k1 => K .nrm (f23s1 a0 k1)) := by kernel_rfl
noncomputable def f23c4 := codeAt (bodyOf Try.f23) [1,0,0]
theorem f23t4 {ρ : Type} (N : Nat) (a0 : List Int) (k1 : Int) (K : KT ρ) : f23i N f23c4 .n (f23s1 a0 k1) (joinK (some f23l2) K) =
  laws_markIntS.Z4 N a0 k1 (fun a0 k1 i5 => K .nrm (f23s2 a0 k1 i5)) := by kernel_rfl
noncomputable def f23c7 := codeAt (bodyOf Try.f23) [1,0,1,0,0]
theorem f23t7 {ρ : Type} (N : Nat) (a0 : List Int) (k1 : Int) (i5 : Int) (K : KT ρ) : f23i N f23c7 .n (f23s2 a0 k1 i5) (joinK (some f23l2) K) =
  laws_markIntS.Z7 N a0 k1 i5 (fun a0 k1 i5 => K .nrm (f23s2 a0 k1 i5)) (fun io100000 k1 => K (.exit 0) (f23s3 io100000 k1)) := by kernel_rfl
noncomputable def f23c6 := codeAt (bodyOf Try.f23) [1,0,1,0]
noncomputable def f23p6 : Plan := .mk none (some f23l2) .n .n
noncomputable abbrev f23w6 {ρ : Type} (N : Nat) (M : Nat) (σ : St) (K : KT ρ) : Option ρ := loopC (fun σ K => f23i N f23c7 .n σ K) f23l2 M σ K
theorem f23t6L {ρ : Type} (N : Nat) (K : KT ρ) : ∀ (M : Nat) (a0 : List Int) (k1 : Int) (i5 : Int), f23w6 N M (f23s2 a0 k1 i5) K =
  laws_markIntS.Z6L N (fun io100000 k1 => K (.exit 0) (f23s3 io100000 k1)) M a0 k1 i5
  | 0, _, _, _ => rfl
  | M + 1, a0, k1, i5 => viaRound (fun k => laws_markIntS.Z7 N a0 k1 i5 k (fun io100000 k1 => K (.exit 0) (f23s3 io100000 k1))) (f23t7 N a0 k1 i5 (seqK (fun σ => f23w6 N M σ K) K)) (funext fun a0 => funext fun k1 => funext fun i5 => f23t6L N K M a0 k1 i5) (by kernel_rfl) (by kernel_rfl)
theorem f23t6 {ρ : Type} (N : Nat) (a0 : List Int) (k1 : Int) (i5 : Int) (K : KT ρ) : f23i N f23c6 f23p6 (f23s2 a0 k1 i5) (joinK (some f23l3) K) =
  laws_markIntS.Z6 N a0 k1 i5 (fun io100000 k1 => K (.exit 0) (f23s3 io100000 k1)) :=
  viaLoop (by kernel_rfl) (by kernel_rfl) (σ' := f23s2 a0 k1 i5) (by kernel_rfl) (f23t6L N (joinK (some f23l3) K) N a0 k1 i5) (by kernel_rfl)
noncomputable def f23c5 := codeAt (bodyOf Try.f23) [1,0,1]
noncomputable def f23p5 : Plan := .mk (some f23l3) none f23p6 .n
theorem f23t5 {ρ : Type} (N : Nat) (a0 : List Int) (k1 : Int) (i5 : Int) (K : KT ρ) : f23i N f23c5 f23p5 (f23s2 a0 k1 i5) (joinK (some f23l3) K) =
  laws_markIntS.Z5 N a0 k1 i5 (fun io100000 k1 => K .nrm (f23s3 io100000 k1)) :=
  viaBlock (by kernel_rfl) (by kernel_rfl) (f23t6 N a0 k1 i5 (blockK 0 (joinK (some f23l3) K))) (by kernel_rfl)
noncomputable def f23c3 := codeAt (bodyOf Try.f23) [1,0]
noncomputable def f23p3 : Plan := .mk (some f23l2) none .n f23p5
theorem f23t3 {ρ : Type} (N : Nat) (a0 : List Int) (k1 : Int) (K : KT ρ) : f23i N f23c3 f23p3 (f23s1 a0 k1) (joinK (some f23l3) K) =
  laws_markIntS.Z3 N a0 k1 (fun io100000 k1 => K .nrm (f23s3 io100000 k1)) :=
  viaSeq (fun k => laws_markIntS.Z4 N a0 k1 k) (by kernel_rfl) (by kernel_rfl) (f23t4 N a0 k1 (seqK (fun σ => f23i N f23c5 f23p5 σ (joinK (some f23l3) K)) (joinK (some f23l3) K))) (funext fun a0 => funext fun k1 => funext fun i5 => f23t5 N a0 k1 i5 K) (by kernel_rfl) (by kernel_rfl)
noncomputable def f23c8 := codeAt (bodyOf Try.f23) [1,1]
theorem f23t8 {ρ : Type} (N : Nat) (io100000 : List Int) (k1 : Int) (K : KT ρ) : f23i N f23c8 .n (f23s3 io100000 k1) (joinK (some f23lE) K) =
  laws_markIntS.Z8 N io100000 k1 (fun io100000 t4 => K .ret (f23s4 io100000 t4)) := by kernel_rfl
noncomputable def f23c2 := codeAt (bodyOf Try.f23) [1]
noncomputable def f23p2 : Plan := .mk (some f23l3) none f23p3 .n
theorem f23t2 {ρ : Type} (N : Nat) (a0 : List Int) (k1 : Int) (K : KT ρ) : f23i N f23c2 f23p2 (f23s1 a0 k1) (joinK (some f23lE) K) =
  laws_markIntS.Z2 N a0 k1 (fun io100000 t4 => K .ret (f23s4 io100000 t4)) :=
  viaSeq (fun k => laws_markIntS.Z3 N a0 k1 k) (by kernel_rfl) (by kernel_rfl) (f23t3 N a0 k1 (seqK (fun σ => f23i N f23c8 .n σ (joinK (some f23lE) K)) (joinK (some f23lE) K))) (funext fun io100000 => funext fun k1 => f23t8 N io100000 k1 K) (by kernel_rfl) (by kernel_rfl)
noncomputable def f23c0 := codeAt (bodyOf Try.f23) []
noncomputable def f23p0 : Plan := .mk (some f23l1) none .n f23p2
theorem f23t0 {ρ : Type} (N : Nat) (a0 : List Int) (k1 : Int) (K : KT ρ) : f23i N f23c0 f23p0 (f23s0 a0 k1) (joinK (some f23lE) K) =
  laws_markIntS.Z0 N a0 k1 (fun io100000 t4 => K .ret (f23s4 io100000 t4)) :=
  viaSeq (fun k => laws_markIntS.Z1 N a0 k1 k) (by kernel_rfl) (by kernel_rfl) (f23t1 N a0 k1 (seqK (fun σ => f23i N f23c2 f23p2 σ (joinK (some f23lE) K)) (joinK (some f23lE) K))) (funext fun a0 => funext fun k1 => f23t2 N a0 k1 K) (by kernel_rfl) (by kernel_rfl)
theorem f23m (N : Nat) (a0 : List Int) (k1 : Int) : f23i N f23c0 f23p0 (f23s0 a0 k1) (joinK (some f23lE) (finK tab f23sig Try.f23.results.toList)) = laws_markIntS.Z0 N a0 k1 (fun io100000 t4 => some (io100000, (t4, ()))) :=
  (f23t0 N a0 k1 (finK tab f23sig Try.f23.results.toList)).trans (by kernel_rfl)
theorem f23ok (h : laws_markIntS.Spec) : EntryOk Try.prog 23 e23 :=
  entry_of_code (sig := f23sig) (c := f23c0) (pl := f23p0) (je := (some f23lE)) (B := f23B) Try.func23 (by kernel_rfl) (by kernel_rfl) (by kernel_rfl) tabOk f23GOk (by kernel_rfl) (by kernel_rfl) (by kernel_rfl) (by kernel_rfl) fun X hb hp => by
    obtain ⟨a0, k1, _⟩ := X
    obtain ⟨N, h⟩ := h a0 k1 hb.1
    exact ⟨N, (f23m N a0 k1).trans (h N (Nat.le_refl N))⟩
theorem e23ok : EntryOk Try.prog 23 e23 := f23ok laws_markIntS.ok
end Go.Fw
set_option linter.unusedVariables false
set_option linter.unusedSimpArgs false
set_option maxRecDepth 100000
namespace Go.Fw
open Go.Proofs
/-! ### loop.example/g03115/laws.markTermS -/
noncomputable def f51sig : Sig := ⟨[⟨.sl 59 (.pair (.sl 3 (.int .i64)) (.int .i64)), false, true⟩, ⟨.int .i64, false, false⟩], [⟨.int .i64, false, false⟩]⟩
noncomputable def e51 : Entry := ⟨f51sig, none, fun X => ((laws_markTermS.g X.1 X.2.1).1, ((laws_markTermS.g X.1 X.2.1).2, ()))⟩
noncomputable def f51G : Nat → Option Entry := addG (fun _ => none) 23 e23
theorem f51GOk : GOk Try.prog f51G := (GOk.nil).add e23ok (by kernel_rfl)
noncomputable def f51lE : Clean := ⟨[], [], [], [], []⟩
noncomputable def f51s0 (a0 : List (List Int × Int)) (k1 : Int) : St := initSt f51sig.ps (a0, (k1, ()))
noncomputable def f51s1 (a0 : List (List Int × Int)) (k1 : Int) : St := stOf [(0, .c (.own 1000000)), (1, .c (.int .i64 k1)), (100000, .c (.own 1000000))] [] [(1000000, (⟨59, .pair (.sl 3 (.int .i64)) (.int .i64), a0, true, false⟩ : Row))]
noncomputable def f51l1 : Clean := ⟨[0, 1, 100000], [], [], [], [(⟨false, 0, 0⟩, 1000000)]⟩
noncomputable def f51s2 (a0 : List (List Int × Int)) (k1 : Int) (i5 : Int) : St := stOf [(0, .c (.own 1000000)), (1, .c (.int .i64 k1)), (5, .c (.int .i64 i5)), (100000, .c (.own 1000000))] [] [(1000000, (⟨59, .pair (.sl 3 (.int .i64)) (.int .i64), a0, true, false⟩ : Row))]
noncomputable def f51l2 : Clean := ⟨[0, 1, 5, 100000], [], [], [], [(⟨false, 0, 0⟩, 1000000)]⟩
noncomputable def f51s3 (io100000 : List (List Int × Int)) (k1 : Int) : St := stOf [(1, .c (.int .i64 k1)), (100000, .c (.own 7400000))] [] [(7400000, (⟨59, .pair (.sl 3 (.int .i64)) (.int .i64), io100000, true, false⟩ : Row))]
noncomputable def f51l3 : Clean := ⟨[1, 100000], [], [], [], [(⟨false, 100000, 0⟩, 7400000)]⟩
noncomputable def f51s4 (io100000 : List (List Int × Int)) (t4 : Int) : St := stOf [(4, .c (.int .i64 t4)), (100000, .c (.own 7400000))] [] [(7400000, (⟨59, .pair (.sl 3 (.int .i64)) (.int .i64), io100000, true, false⟩ : Row))]
noncomputable def f51l4 : Clean := ⟨[4, 100000], [], [], [], [(⟨false, 100000, 0⟩, 7400000)]⟩
noncomputable def f51B : Nat → Option Clean := lookL [(0, f51l3), (1000000, f51l4)]
noncomputable abbrev f51i {ρ : Type} (N : Nat) (c : Code) (p : Plan) (σ : St) (K : KT ρ) : Option ρ := iCode f51G tab f51B N c p σ K
noncomputable def f51c1 := codeAt (bodyOf Try.f51) [0]
theorem f51t1 {ρ : Type} (N : Nat) (a0 : List (List Int × Int)) (k1 : Int) (K : KT ρ) : f51i N f51c1 .n (f51s0 a0 k1) (joinK (some f51l1) K) =
  laws_markTermS.Z1 N a0 k1 (fun a0 k1 => K .nrm (f51s1 a0 k1)) := by kernel_rfl
noncomputable def f51c4 := codeAt (bodyOf Try.f51) [1,0,0]
theorem f51t4 {ρ : Type} (N : Nat) (a0 : List (List Int × Int)) (k1 : Int) (K : KT ρ) : f51i N f51c4 .n (f51s1 a0 k1) (joinK (some f51l2) K) =
  laws_markTermS.Z4 N a0 k1 (fun a0 k1 i5 => K .nrm (f51s2 a0 k1 i5)) := by kernel_rfl
noncomputable def f51c7 := codeAt (bodyOf Try.f51) [1,0,1,0,0]
theorem f51t7 {ρ : Type} (N : Nat) (a0 : List (List Int × Int)) (k1 : Int) (i5 : Int) (K : KT ρ) : f51i N f51c7 .n (f51s2 a0 k1 i5) (joinK (some f51l2) K) =
  laws_markTermS.Z7 N a0 k1 i5 (fun a0 k1 i5 => K .nrm (f51s2 a0 k1 i5)) (fun io100000 k1 => K (.exit 0) (f51s3 io100000 k1)) := by kernel_rfl
noncomputable def f51c6 := codeAt (bodyOf Try.f51) [1,0,1,0]
noncomputable def f51p6 : Plan := .mk none (some f51l2) .n .n
noncomputable abbrev f51w6 {ρ : Type} (N : Nat) (M : Nat) (σ : St) (K : KT ρ) : Option ρ := loopC (fun σ K => f51i N f51c7 .n σ K) f51l2 M σ K
theorem f51t6L {ρ : Type} (N : Nat) (K : KT ρ) : ∀ (M : Nat) (a0 : List (List Int × Int)) (k1 : Int) (i5 : Int), f51w6 N M (f51s2 a0 k1 i5) K =
  laws_markTermS.Z6L N (fun io100000 k1 => K (.exit 0) (f51s3 io100000 k1)) M a0 k1 i5
  | 0, _, _, _ => rfl
  | M + 1, a0, k1, i5 => viaRound (fun k => laws_markTermS.Z7 N a0 k1 i5 k (fun io100000 k1 => K (.exit 0) (f51s3 io100000 k1))) (f51t7 N a0 k1 i5 (seqK (fun σ => f51w6 N M σ K) K)) (funext fun a0 => funext fun k1 => funext fun i5 => f51t6L N K M a0 k1 i5) (by kernel_rfl) (by kernel_rfl)
theorem f51t6 {ρ : Type} (N : Nat) (a0 : List (List Int × Int)) (k1 : Int) (i5 : Int) (K : KT ρ) : f51i N f51c6 f51p6 (f51s2 a0 k1 i5) (joinK (some f51l3) K) =
  laws_markTermS.Z6 N a0 k1 i5 (fun io100000 k1 => K (.exit 0) (f51s3 io100000 k1)) :=
  viaLoop (by kernel_rfl) (by kernel_rfl) (σ' := f51s2 a0 k1 i5) (by kernel_rfl) (f51t6L N (joinK (some f51l3) K) N a0 k1 i5) (by kernel_rfl)
noncomputable def f51c5 := codeAt (bodyOf Try.f51) [1,0,1]
noncomputable def f51p5 : Plan := .mk (some f51l3) none f51p6 .n
theorem f51t5 {ρ : Type} (N : Nat) (a0 : List (List Int × Int)) (k1 : Int) (i5 : Int) (K : KT ρ) : f51i N f51c5 f51p5 (f51s2 a0 k1 i5) (joinK (some f51l3) K) =
  laws_markTermS.Z5 N a0 k1 i5 (fun io100000 k1 => K .nrm (f51s3 io100000 k1)) :=
  viaBlock (by kernel_rfl) (by kernel_rfl) (f51t6 N a0 k1 i5 (blockK 0 (joinK (some f51l3) K))) (by kernel_rfl)
noncomputable def f51c3 := codeAt (bodyOf Try.f51) [1,0]
noncomputable def f51p3 : Plan := .mk (some f51l2) none .n f51p5
theorem f51t3 {ρ : Type} (N : Nat) (a0 : List (List Int × Int)) (k1 : Int) (K : KT ρ) : f51i N f51c3 f51p3 (f51s1 a0 k1) (joinK (some f51l3) K) =
  laws_markTermS.Z3 N a0 k1 (fun io100000 k1 => K .nrm (f51s3 io100000 k1)) :=
  viaSeq (fun k => laws_markTermS.Z4 N a0 k1 k) (by kernel_rfl) (by kernel_rfl) (f51t4 N a0 k1 (seqK (fun σ => f51i N f51c5 f51p5 σ (joinK (some f51l3) K)) (joinK (some f51l3) K))) (funext fun a0 => funext fun k1 => funext fun i5 => f51t5 N a0 k1 i5 K) (by kernel_rfl) (by kernel_rfl)
noncomputable def f51c8 := codeAt (bodyOf Try.f51) [1,1]
theorem f51t8 {ρ : Type} (N : Nat) (io100000 : List (List Int × Int)) (k1 : Int) (K : KT ρ) : f51i N f51c8 .n (f51s3 io100000 k1) (joinK (some f51lE) K) =
  laws_markTermS.Z8 N io100000 k1 (fun io100000 t4 => K .ret (f51s4 io100000 t4)) := by kernel_rfl
noncomputable def f51c2 := codeAt (bodyOf Try.f51) [1]
noncomputable def f51p2 : Plan := .mk (some f51l3) none f51p3 .n
theorem f51t2 {ρ : Type} (N : Nat) (a0 : List (List Int × Int)) (k1 : Int) (K : KT ρ) : f51i N f51c2 f51p2 (f51s1 a0 k1) (joinK (some f51lE) K) =
  laws_markTermS.Z2 N a0 k1 (fun io100000 t4 => K .ret (f51s4 io100000 t4)) :=
  viaSeq (fun k => laws_markTermS.Z3 N a0 k1 k) (by kernel_rfl) (by kernel_rfl) (f51t3 N a0 k1 (seqK (fun σ => f51i N f51c8 .n σ (joinK (some f51lE) K)) (joinK (some f51lE) K))) (funext fun io100000 => funext fun k1 => f51t8 N io100000 k1 K) (by kernel_rfl) (by kernel_rfl)
noncomputable def f51c0 := codeAt (bodyOf Try.f51) []
noncomputable def f51p0 : Plan := .mk (some f51l1) none .n f51p2
theorem f51t0 {ρ : Type} (N : Nat) (a0 : List (List Int × Int)) (k1 : Int) (K : KT ρ) : f51i N f51c0 f51p0 (f51s0 a0 k1) (joinK (some f51lE) K) =
  laws_markTermS.Z0 N a0 k1 (fun io100000 t4 => K .ret (f51s4 io100000 t4)) :=
  viaSeq (fun k => laws_markTermS.Z1 N a0 k1 k) (by kernel_rfl) (by kernel_rfl) (f51t1 N a0 k1 (seqK (fun σ => f51i N f51c2 f51p2 σ (joinK (some f51lE) K)) (joinK (some f51lE) K))) (funext fun a0 => funext fun k1 => f51t2 N a0 k1 K) (by kernel_rfl) (by kernel_rfl)
theorem f51m (N : Nat) (a0 : List (List Int × Int)) (k1 : Int) : f51i N f51c0 f51p0 (f51s0 a0 k1) (joinK (some f51lE) (finK tab f51sig Try.f51.results.toList)) = laws_markTermS.Z0 N a0 k1 (fun io100000 t4 => some (io100000, (t4, ()))) :=
  (f51t0 N a0 k1 (finK tab f51sig Try.f51.results.toList)).trans (by kernel_rfl)
theorem f51ok (h : laws_markTermS.Spec) : EntryOk Try.prog 51 e51 :=
  entry_of_code (sig := f51sig) (c := f51c0) (pl := f51p0) (je := (some f51lE)) (B := f51B) Try.func51 (by kernel_rfl) (by kernel_rfl) (by kernel_rfl) tabOk f51GOk (by kernel_rfl) (by kernel_rfl) (by kernel_rfl) (by kernel_rfl) fun X hb hp => by
    obtain ⟨a0, k1, _⟩ := X
    obtain ⟨N, h⟩ := h a0 k1 hb.1
    exact ⟨N, (f51m N a0 k1).trans (h N (Nat.le_refl N))⟩
theorem e51ok : EntryOk Try.prog 51 e51 := f51ok laws_markTermS.ok
end Go.Fw
set_option linter.unusedVariables false
set_option linter.unusedSimpArgs false
set_option maxRecDepth 100000
namespace Go.Fw
open Go.Proofs
/-! ### loop.example/g03115/laws.markLaurent -/
noncomputable def f17sig : Sig := ⟨[⟨.pair (.int .i64) (.sl 59 (.pair (.sl 3 (.int .i64)) (.int .i64))), true, true⟩, ⟨.int .i64, false, false⟩], [⟨.int .i64, false, false⟩]⟩
noncomputable def e17 : Entry := ⟨f17sig, none, fun X => ((laws_markLaurent.g X.1 X.2.1).1, ((laws_markLaurent.g X.1 X.2.1).2, ()))⟩
noncomputable def f17G : Nat → Option Entry := addG (fun _ => none) 51 e51
theorem f17GOk : GOk Try.prog f17G := (GOk.nil).add e51ok (by kernel_rfl)
noncomputable def f17lE : Clean := ⟨[], [], [], [], []⟩
noncomputable def f17s0 (a0 : Int × List (List Int × Int)) (k1 : Int) : St := initSt f17sig.ps (a0, (k1, ()))
noncomputable def f17s1 (io100000_1 : List (List Int × Int)) (t4 : Int) (io100000_0 : Int) : St := stOf [(4, .c (.int .i64 t4)), (100000, .agg [.int .i64 io100000_0, .own 7400001])] [] [(7400001, (⟨59, .pair (.sl 3 (.int .i64)) (.int .i64), io100000_1, true, false⟩ : Row))]
noncomputable def f17l1 : Clean := ⟨[4, 100000], [], [], [], [(⟨false, 100000, 1⟩, 7400001)]⟩
noncomputable def f17B : Nat → Option Clean := lookL [(1000000, f17l1)]
noncomputable abbrev f17i {ρ : Type} (N : Nat) (c : Code) (p : Plan) (σ : St) (K : KT ρ) : Option ρ := iCode f17G tab f17B N c p σ K
noncomputable def f17c0 := codeAt (bodyOf Try.f17) []
theorem f17t0 {ρ : Type} (N : Nat) (a0 : Int × List (List Int × Int)) (k1 : Int) (K : KT ρ) : f17i N f17c0 .n (f17s0 a0 k1) (joinK (some f17lE) K) =
  laws_markLaurent.Z0 N a0 k1 (fun io100000_1 t4 io100000_0 => K .ret (f17s1 io100000_1 t4 io100000_0)) := by kernel_rfl
theorem f17m (N : Nat) (a0 : Int × List (List Int × Int)) (k1 : Int) : f17i N f17c0 .n (f17s0 a0 k1) (joinK (some f17lE) (finK tab f17sig Try.f17.results.toList)) = laws_markLaurent.Z0 N a0 k1 (fun io100000_1 t4 io100000_0 => some ((io100000_0, io100000_1), (t4, ()))) :=
  (f17t0 N a0 k1 (finK tab f17sig Try.f17.results.toList)).trans (by kernel_rfl)
theorem f17ok (h : laws_markLaurent.Spec) : EntryOk Try.prog 17 e17 :=
  entry_of_code (sig := f17sig) (c := f17c0) (pl := .n) (je := (some f17lE)) (B := f17B) Try.func17 (by kernel_rfl) (by kernel_rfl) (by kernel_rfl) tabOk f17GOk (by kernel_rfl) (by kernel_rfl) (by kernel_rfl) (by kernel_rfl) fun X hb hp => by
    obtain ⟨a0, k1, _⟩ := X
    obtain ⟨N, h⟩ := h a0 k1 hb.1
    exact ⟨N, (f17m N a0 k1).trans (h N (Nat.le_refl N))⟩
theorem e17ok : EntryOk Try.prog 17 e17 := f17ok laws_markLaurent.ok
end Go.Fw
set_option linter.unusedVariables false
set_option linter.unusedSimpArgs false
set_option maxRecDepth 100000
namespace Go.Fw
open Go.Proofs
/-! ### loop.example/g03115/laws.heldIntS -/
noncomputable def f38sig : Sig := ⟨[⟨.sl 3 (.int .i64), false, false⟩, ⟨.int .i64, false, false⟩], [⟨.int .i64, false, false⟩]⟩
noncomputable def e38 : Entry := ⟨f38sig, none, fun X => ((), ((laws_heldIntS.g X.1 X.2.1), ()))⟩
noncomputable def f38G : Nat → Option Entry := (fun _ => none)
theorem f38GOk : GOk Try.prog f38G := GOk.nil
noncomputable def f38lE : Clean := ⟨[], [], [], [], []⟩
noncomputable def f38s0 (a0 : List Int) (k1 : Int) : St := initSt f38sig.ps (a0, (k1, ()))
noncomputable def f38s1 (a0 : List Int) (k1 : Int) : St := stOf [(0, .c (.sn 3 (.int .i64) a0 none)), (1, .c (.int .i64 k1))] [] []
noncomputable def f38l1 : Clean := ⟨[0, 1], [], [], [], []⟩
noncomputable def f38s2 (a0 : List Int) (k1 : Int) (i5 : Int) : St := stOf [(0, .c (.sn 3 (.int .i64) a0 none)), (1, .c (.int .i64 k1)), (5, .c (.int .i64 i5))] [] []
noncomputable def f38l2 : Clean := ⟨[0, 1, 5], [], [], [], []⟩
noncomputable def f38s3 (k1 : Int) : St := stOf [(1, .c (.int .i64 k1))] [] []
noncomputable def f38l3 : Clean := ⟨[1], [], [], [], []⟩
noncomputable def f38s4 (t4 : Int) : St := stOf [(4, .c (.int .i64 t4))] [] []
noncomputable def f38l4 : Clean := ⟨[4], [], [], [], []⟩
noncomputable def f38B : Nat → Option Clean := lookL [(0, f38l3), (1000000, f38l4)]
noncomputable abbrev f38i {ρ : Type} (N : Nat) (c : Code) (p : Plan) (σ : St) (K : KT ρ) : Option ρ := iCode f38G tab f38B N c p σ K
noncomputable def f38c1 := codeAt (bodyOf Try.f38) [0]
theorem f38t1 {ρ : Type} (N : Nat) (a0 : List Int) (k1 : Int) (K : KT ρ) : f38i N f38c1 .n (f38s0 a0 k1) (joinK (some f38l1) K) =
  laws_heldIntS.Z1 N a0 k1 (fun a0 k1 => K .nrm (f38s1 a0 k1)) := by kernel_rfl
noncomputable def f38c4 := codeAt (bodyOf Try.f38) [1,0,0]
theorem f38t4 {ρ : Type} (N : Nat) (a0 : List Int) (k1 : Int) (K : KT ρ) : f38i N f38c4 .n (f38s1 a0 k1) (joinK (some f38l2) K) =
  laws_heldIntS.Z4 N a0 k1 (fun a0 k1 i5 => K .nrm (f38s2 a0 k1 i5)) := by kernel_rfl
noncomputable def f38c7 := codeAt (bodyOf Try.f38) [1,0,1,0,0]
theorem f38t7 {ρ : Type} (N : Nat) (a0 : List Int) (k1 : Int) (i5 : Int) (K : KT ρ) : f38i N f38c7 .n (f38s2 a0 k1 i5) (joinK (some f38l2) K) =
  laws_heldIntS.Z7 N a0 k1 i5 (fun a0 k1 i5 => K .nrm (f38s2 a0 k1 i5)) (fun k1 => K (.exit 0) (f38s3 k1)) (fun t4 => K .ret (f38s4 t4)) := by kernel_rfl
noncomputable def f38c6 := codeAt (bodyOf Try.f38) [1,0,1,0]
noncomputable def f38p6 : Plan := .mk none (some f38l2) .n .n
noncomputable abbrev f38w6 {ρ : Type} (N : Nat) (M : Nat) (σ : St) (K : KT ρ) : Option ρ := loopC (fun σ K => f38i N f38c7 .n σ K) f38l2 M σ K
theorem f38t6L {ρ : Type} (N : Nat) (K : KT ρ) : ∀ (M : Nat) (a0 : List Int) (k1 : Int) (i5 : Int), f38w6 N M (f38s2 a0 k1 i5) K =
  laws_heldIntS.Z6L N (fun k1 => K (.exit 0) (f38s3 k1)) (fun t4 => K .ret (f38s4 t4)) M a0 k1 i5
  | 0, _, _, _ => rfl
  | M + 1, a0, k1, i5 => viaRound (fun k => laws_heldIntS.Z7 N a0 k1 i5 k (fun k1 => K (.exit 0) (f38s3 k1)) (fun t4 => K .ret (f38s4 t4))) (f38t7 N a0 k1 i5 (seqK (fun σ => f38w6 N M σ K) K)) (funext fun a0 => funext fun k1 => funext fun i5 => f38t6L N K M a0 k1 i5) (by kernel_rfl) (by kernel_rfl)
theorem f38t6 {ρ : Type} (N : Nat) (a0 : List Int) (k1 : Int) (i5 : Int) (K : KT ρ) : f38i N f38c6 f38p6 (f38s2 a0 k1 i5) (joinK (some f38l3) K) =
  laws_heldIntS.Z6 N a0 k1 i5 (fun k1 => K (.exit 0) (f38s3 k1)) (fun t4 => K .ret (f38s4 t4)) :=
  viaLoop (by kernel_rfl) (by kernel_rfl) (σ' := f38s2 a0 k1 i5) (by kernel_rfl) (f38t6L N (joinK (some f38l3) K) N a0 k1 i5) (by kernel_rfl)
noncomputable def f38c5 := codeAt (bodyOf Try.f38) [1,0,1]
noncomputable def f38p5 : Plan := .mk (some f38l3) none f38p6 .n
theorem f38t5 {ρ : Type} (N : Nat) (a0 : List Int) (k1 : Int) (i5 : Int) (K : KT ρ) : f38i N f38c5 f38p5 (f38s2 a0 k1 i5) (joinK (some f38l3) K) =
  laws_heldIntS.Z5 N a0 k1 i5 (fun k1 => K .nrm (f38s3 k1)) (fun t4 => K .ret (f38s4 t4)) :=
  viaBlock (by kernel_rfl) (by kernel_rfl) (f38t6 N a0 k1 i5 (blockK 0 (joinK (some f38l3) K))) (by kernel_rfl)
noncomputable def f38c3 := codeAt (bodyOf Try.f38) [1,0]
noncomputable def f38p3 : Plan := .mk (some f38l2) none .n f38p5
theorem f38t3 {ρ : Type} (N : Nat) (a0 : List Int) (k1 : Int) (K : KT ρ) : f38i N f38c3 f38p3 (f38s1 a0 k1) (joinK (some f38l3) K) =
  laws_heldIntS.Z3 N a0 k1 (fun k1 => K .nrm (f38s3 k1)) (fun t4 => K .ret (f38s4 t4)) :=
  viaSeq (fun k => laws_heldIntS.Z4 N a0 k1 k) (by kernel_rfl) (by kernel_rfl) (f38t4 N a0 k1 (seqK (fun σ => f38i N f38c5 f38p5 σ (joinK (some f38l3) K)) (joinK (some f38l3) K))) (funext fun a0 => funext fun k1 => funext fun i5 => f38t5 N a0 k1 i5 K) (by kernel_rfl) (by kernel_rfl)
noncomputable def f38c8 := codeAt (bodyOf Try.f38) [1,1]
theorem f38t8 {ρ : Type} (N : Nat) (k1 : Int) (K : KT ρ) : f38i N f38c8 .n (f38s3 k1) (joinK (some f38lE) K) =
  laws_heldIntS.Z8 N k1 (fun t4 => K .ret (f38s4 t4)) := by kernel_rfl
noncomputable def f38c2 := codeAt (bodyOf Try.f38) [1]
noncomputable def f38p2 : Plan := .mk (some f38l3) none f38p3 .n
theorem f38t2 {ρ : Type} (N : Nat) (a0 : List Int) (k1 : Int) (K : KT ρ) : f38i N f38c2 f38p2 (f38s1 a0 k1) (joinK (some f38lE) K) =
  laws_heldIntS.Z2 N a0 k1 (fun t4 => K .ret (f38s4 t4)) :=
  viaSeq (fun k => laws_heldIntS.Z3 N a0 k1 k (fun t4 => K .ret (f38s4 t4))) (by kernel_rfl) (by kernel_rfl) (f38t3 N a0 k1 (seqK (fun σ => f38i N f38c8 .n σ (joinK (some f38lE) K)) (joinK (some f38lE) K))) (funext fun k1 => f38t8 N k1 K) (by kernel_rfl) (by kernel_rfl)
noncomputable def f38c0 := codeAt (bodyOf Try.f38) []
noncomputable def f38p0 : Plan := .mk (some f38l1) none .n f38p2
theorem f38t0 {ρ : Type} (N : Nat) (a0 : List Int) (k1 : Int) (K : KT ρ) : f38i N f38c0 f38p0 (f38s0 a0 k1) (joinK (some f38lE) K) =
  laws_heldIntS.Z0 N a0 k1 (fun t4 => K .ret (f38s4 t4)) :=
  viaSeq (fun k => laws_heldIntS.Z1 N a0 k1 k) (by kernel_rfl) (by kernel_rfl) (f38t1 N a0 k1 (seqK (fun σ => f38i N f38c2 f38p2 σ (joinK (some f38lE) K)) (joinK (some f38lE) K))) (funext fun a0 => funext fun k1 => f38t2 N a0 k1 K) (by kernel_rfl) (by kernel_rfl)
theorem f38m (N : Nat) (a0 : List Int) (k1 : Int) : f38i N f38c0 f38p0 (f38s0 a0 k1) (joinK (some f38lE) (finK tab f38sig Try.f38.results.toList)) = laws_heldIntS.Z0 N a0 k1 (fun t4 => some ((), (t4, ()))) :=
  (f38t0 N a0 k1 (finK tab f38sig Try.f38.results.toList)).trans (by kernel_rfl)
theorem f38ok (h : laws_heldIntS.Spec) : EntryOk Try.prog 38 e38 :=
  entry_of_code (sig := f38sig) (c := f38c0) (pl := f38p0) (je := (some f38lE)) (B := f38B) Try.func38 (by kernel_rfl) (by kernel_rfl) (by kernel_rfl) tabOk f38GOk (by kernel_rfl) (by kernel_rfl) (by kernel_rfl) (by kernel_rfl) fun X hb hp => by
    obtain ⟨a0, k1, _⟩ := X
    obtain ⟨N, h⟩ := h a0 k1 hb.1
    exact ⟨N, (f38m N a0 k1).trans (h N (Nat.le_refl N))⟩
theorem e38ok : EntryOk Try.prog 38 e38 := f38ok laws_heldIntS.ok
end Go.Fw
set_option linter.unusedVariables false
set_option linter.unusedSimpArgs false
set_option maxRecDepth 100000
namespace Go.Fw
open Go.Proofs
/-! ### loop.example/g03115/laws.heldTermS -/
noncomputable def f52sig : Sig := ⟨[⟨.sl 59 (.pair (.sl 3 (.int .i64)) (.int .i64)), false, false⟩, ⟨.int .i64, false, false⟩], [⟨.int .i64, false, false⟩]⟩
noncomputable def e52 : Entry := ⟨f52sig, none, fun X => ((), ((laws_heldTermS.g X.1 X.2.1), ()))⟩
noncomputable def f52G : Nat → Option Entry := addG (fun _ => none) 38 e38
theorem f52GOk : GOk Try.prog f52G := (GOk.nil).add e38ok (by kernel_rfl)
noncomputable def f52lE : Clean := ⟨[], [], [], [], []⟩
noncomputable def f52s0 (a0 : List (List Int × Int)) (k1 : Int) : St := initSt f52sig.ps (a0, (k1, ()))
noncomputable def f52s1 (a0 : List (List Int × Int)) (k1 : Int) : St := stOf [(0, .c (.sn 59 (.pair (.sl 3 (.int .i64)) (.int .i64)) a0 none)), (1, .c (.int .i64 k1))] [] []
noncomputable def f52l1 : Clean := ⟨[0, 1], [], [], [], []⟩
noncomputable def f52s2 (a0 : List (List Int × Int)) (k1 : Int) (i5 : Int) : St := stOf [(0, .c (.sn 59 (.pair (.sl 3 (.int .i64)) (.int .i64)) a0 none)), (1, .c (.int .i64 k1)), (5, .c (.int .i64 i5))] [] []
noncomputable def f52l2 : Clean := ⟨[0, 1, 5], [], [], [], []⟩
noncomputable def f52s3 (k1 : Int) : St := stOf [(1, .c (.int .i64 k1))] [] []
noncomputable def f52l3 : Clean := ⟨[1], [], [], [], []⟩
noncomputable def f52s4 (t4 : Int) : St := stOf [(4, .c (.int .i64 t4))] [] []
noncomputable def f52l4 : Clean := ⟨[4], [], [], [], []⟩
noncomputable def f52B : Nat → Option Clean := lookL [(0, f52l3), (1000000, f52l4)]
noncomputable abbrev f52i {ρ : Type} (N : Nat) (c : Code) (p : Plan) (σ : St) (K : KT ρ) : Option ρ := iCode f52G tab f52B N c p σ K
noncomputable def f52c1 := codeAt (bodyOf Try.f52) [0]
theorem f52t1 {ρ : Type} (N : Nat) (a0 : List (List Int × Int)) (k1 : Int) (K : KT ρ) : f52i N f52c1 .n (f52s0 a0 k1) (joinK (some f52l1) K) =
  laws_heldTermS.Z1 N a0 k1 (fun a0 k1 => K .nrm (f52s1 a0 k1)) := by kernel_rfl
noncomputable def f52c4 := codeAt (bodyOf Try.f52) [1,0,0]
theorem f52t4 {ρ : Type} (N : Nat) (a0 : List (List Int × Int)) (k1 : Int) (K : KT ρ) : f52i N f52c4 .n (f52s1 a0 k1) (joinK (some f52l2) K) =
  laws_heldTermS.Z4 N a0 k1 (fun a0 k1 i5 => K .nrm (f52s2 a0 k1 i5)) := by kernel_rfl
noncomputable def f52c7 := codeAt (bodyOf Try.f52) [1,0,1,0,0]
theorem f52t7 {ρ : Type} (N : Nat) (a0 : List (List Int × Int)) (k1 : Int) (i5 : Int) (K : KT ρ) : f52i N f52c7 .n (f52s2 a0 k1 i5) (joinK (some f52l2) K) =
  laws_heldTermS.Z7 N a0 k1 i5 (fun a0 k1 i5 => K .nrm (f52s2 a0 k1 i5)) (fun k1 => K (.exit 0) (f52s3 k1)) (fun t4 => K .ret (f52s4 t4)) := by kernel_rfl
noncomputable def f52c6 := codeAt (bodyOf Try.f52) [1,0,1,0]
noncomputable def f52p6 : Plan := .mk none (some f52l2) .n .n
noncomputable abbrev f52w6 {ρ : Type} (N : Nat) (M : Nat) (σ : St) (K : KT ρ) : Option ρ := loopC (fun σ K => f52i N f52c7 .n σ K) f52l2 M σ K
theorem f52t6L {ρ : Type} (N : Nat) (K : KT ρ) : ∀ (M : Nat) (a0 : List (List Int × Int)) (k1 : Int) (i5 : Int), f52w6 N M (f52s2 a0 k1 i5) K =
  laws_heldTermS.Z6L N (fun k1 => K (.exit 0) (f52s3 k1)) (fun t4 => K .ret (f52s4 t4)) M a0 k1 i5
  | 0, _, _, _ => rfl
  | M + 1, a0, k1, i5 => viaRound (fun k => laws_heldTermS.Z7 N a0 k1 i5 k (fun k1 => K (.exit 0) (f52s3 k1)) (fun t4 => K .ret (f52s4 t4))) (f52t7 N a0 k1 i5 (seqK (fun σ => f52w6 N M σ K) K)) (funext fun a0 => funext fun k1 => funext fun i5 => f52t6L N K M a0 k1 i5) (by kernel_rfl) (by kernel_rfl)
theorem f52t6 {ρ : Type} (N : Nat) (a0 : List (List Int × Int)) (k1 : Int) (i5 : Int) (K : KT ρ) : f52i N f52c6 f52p6 (f52s2 a0 k1 i5) (joinK (some f52l3) K) =
  laws_heldTermS.Z6 N a0 k1 i5 (fun k1 => K (.exit 0) (f52s3 k1)) (fun t4 => K .ret (f52s4 t4)) :=
  viaLoop (by kernel_rfl) (by kernel_rfl) (σ' := f52s2 a0 k1 i5) (by kernel_rfl) (f52t6L N (joinK (some f52l3) K) N a0 k1 i5) (by kernel_rfl)
noncomputable def f52c5 := codeAt (bodyOf Try.f52) [1,0,1]
noncomputable def f52p5 : Plan := .mk (some f52l3) none f52p6 .n
theorem f52t5 {ρ : Type} (N : Nat) (a0 : List (List Int × Int)) (k1 : Int) (i5 : Int) (K : KT ρ) : f52i N f52c5 f52p5 (f52s2 a0 k1 i5) (joinK (some f52l3) K) =
  laws_heldTermS.Z5 N a0 k1 i5 (fun k1 => K .nrm (f52s3 k1)) (fun t4 => K .ret (f52s4 t4)) :=
  viaBlock (by kernel_rfl) (by kernel_rfl) (f52t6 N a0 k1 i5 (blockK 0 (joinK (some f52l3) K))) (by kernel_rfl)
noncomputable def f52c3 := codeAt (bodyOf Try.f52) [1,0]
noncomputable def f52p3 : Plan := .mk (some f52l2) none .n f52p5
theorem f52t3 {ρ : Type} (N : Nat) (a0 : List (List Int × Int)) (k1 : Int) (K : KT ρ) : f52i N f52c3 f52p3 (f52s1 a0 k1) (joinK (some f52l3) K) =
  laws_heldTermS.Z3 N a0 k1 (fun k1 => K .nrm (f52s3 k1)) (fun t4 => K .ret (f52s4 t4)) :=
  viaSeq (fun k => laws_heldTermS.Z4 N a0 k1 k) (by kernel_rfl) (by kernel_rfl) (f52t4 N a0 k1 (seqK (fun σ => f52i N f52c5 f52p5 σ (joinK (some f52l3) K)) (joinK (some f52l3) K))) (funext fun a0 => funext fun k1 => funext fun i5 => f52t5 N a0 k1 i5 K) (by kernel_rfl) (by kernel_rfl)
noncomputable def f52c8 := codeAt (bodyOf Try.f52) [1,1]
theorem f52t8 {ρ : Type} (N : Nat) (k1 : Int) (K : KT ρ) : f52i N f52c8 .n (f52s3 k1) (joinK (some f52lE) K) =
  laws_heldTermS.Z8 N k1 (fun t4 => K .ret (f52s4 t4)) := by kernel_rfl
noncomputable def f52c2 := codeAt (bodyOf Try.f52) [1]
noncomputable def f52p2 : Plan := .mk (some f52l3) none f52p3 .n
theorem f52t2 {ρ : Type} (N : Nat) (a0 : List (List Int × Int)) (k1 : Int) (K : KT ρ) : f52i N f52c2 f52p2 (f52s1 a0 k1) (joinK (some f52lE) K) =
  laws_heldTermS.Z2 N a0 k1 (fun t4 => K .ret (f52s4 t4)) :=
  viaSeq (fun k => laws_heldTermS.Z3 N a0 k1 k (fun t4 => K .ret (f52s4 t4))) (by kernel_rfl) (by kernel_rfl) (f52t3 N a0 k1 (seqK (fun σ => f52i N f52c8 .n σ (joinK (some f52lE) K)) (joinK (some f52lE) K))) (funext fun k1 => f52t8 N k1 K) (by kernel_rfl) (by kernel_rfl)
noncomputable def f52c0 := codeAt (bodyOf Try.f52) []
noncomputable def f52p0 : Plan := .mk (some f52l1) none .n f52p2
theorem f52t0 {ρ : Type} (N : Nat) (a0 : List (List Int × Int)) (k1 : Int) (K : KT ρ) : f52i N f52c0 f52p0 (f52s0 a0 k1) (joinK (some f52lE) K) =
  laws_heldTermS.Z0 N a0 k1 (fun t4 => K .ret (f52s4 t4)) :=
  viaSeq (fun k => laws_heldTermS.Z1 N a0 k1 k) (by kernel_rfl) (by kernel_rfl) (f52t1 N a0 k1 (seqK (fun σ => f52i N f52c2 f52p2 σ (joinK (some f52lE) K)) (joinK (some f52lE) K))) (funext fun a0 => funext fun k1 => f52t2 N a0 k1 K) (by kernel_rfl) (by kernel_rfl)
theorem f52m (N : Nat) (a0 : List (List Int × Int)) (k1 : Int) : f52i N f52c0 f52p0 (f52s0 a0 k1) (joinK (some f52lE) (finK tab f52sig Try.f52.results.toList)) = laws_heldTermS.Z0 N a0 k1 (fun t4 => some ((), (t4, ()))) :=
  (f52t0 N a0 k1 (finK tab f52sig Try.f52.results.toList)).trans (by kernel_rfl)
theorem f52ok (h : laws_heldTermS.Spec) : EntryOk Try.prog 52 e52 :=
  entry_of_code (sig := f52sig) (c := f52c0) (pl := f52p0) (je := (some f52lE)) (B := f52B) Try.func52 (by kernel_rfl) (by kernel_rfl) (by kernel_rfl) tabOk f52GOk (by kernel_rfl) (by kernel_rfl) (by kernel_rfl) (by kernel_rfl) fun X hb hp => by
    obtain ⟨a0, k1, _⟩ := X
    obtain ⟨N, h⟩ := h a0 k1 hb.1
    exact ⟨N, (f52m N a0 k1).trans (h N (Nat.le_refl N))⟩
theorem e52ok : EntryOk Try.prog 52 e52 := f52ok laws_heldTermS.ok
end Go.Fw
set_option linter.unusedVariables false
set_option linter.unusedSimpArgs false
set_option maxRecDepth 100000
namespace Go.Fw
open Go.Proofs
/-! ### loop.example/g03115/laws.heldLaurent -/
noncomputable def f18sig : Sig := ⟨[⟨.pair (.int .i64) (.sl 59 (.pair (.sl 3 (.int .i64)) (.int .i64))), true, false⟩, ⟨.int .i64, false, false⟩], [⟨.int .i64, false, false⟩]⟩
noncomputable def e18 : Entry := ⟨f18sig, none, fun X => ((), ((laws_heldLaurent.g X.1 X.2.1), ()))⟩
noncomputable def f18G : Nat → Option Entry := addG (fun _ => none) 52 e52
theorem f18GOk : GOk Try.prog f18G := (GOk.nil).add e52ok (by kernel_rfl)
noncomputable def f18lE : Clean := ⟨[], [], [], [], []⟩
noncomputable def f18s0 (a0 : Int × List (List Int × Int)) (k1 : Int) : St := initSt f18sig.ps (a0, (k1, ()))
noncomputable def f18s1 (t4 : Int) : St := stOf [(4, .c (.int .i64 t4))] [] []
noncomputable def f18l1 : Clean := ⟨[4], [], [], [], []⟩
noncomputable def f18B : Nat → Option Clean := lookL [(1000000, f18l1)]
noncomputable abbrev f18i {ρ : Type} (N : Nat) (c : Code) (p : Plan) (σ : St) (K : KT ρ) : Option ρ := iCode f18G tab f18B N c p σ K
noncomputable def f18c0 := codeAt (bodyOf Try.f18) []
theorem f18t0 {ρ : Type} (N : Nat) (a0 : Int × List (List Int × Int)) (k1 : Int) (K : KT ρ) : f18i N f18c0 .n (f18s0 a0 k1) (joinK (some f18lE) K) =
  laws_heldLaurent.Z0 N a0 k1 (fun t4 => K .ret (f18s1 t4)) := by kernel_rfl
theorem f18m (N : Nat) (a0 : Int × List (List Int × Int)) (k1 : Int) : f18i N f18c0 .n (f18s0 a0 k1) (joinK (some f18lE) (finK tab f18sig Try.f18.results.toList)) = laws_heldLaurent.Z0 N a0 k1 (fun t4 => some ((), (t4, ()))) :=
  (f18t0 N a0 k1 (finK tab f18sig Try.f18.results.toList)).trans (by kernel_rfl)
theorem f18ok (h : laws_heldLaurent.Spec) : EntryOk Try.prog 18 e18 :=
  entry_of_code (sig := f18sig) (c := f18c0) (pl := .n) (je := (some f18lE)) (B := f18B) Try.func18 (by kernel_rfl) (by kernel_rfl) (by kernel_rfl) tabOk f18GOk (by kernel_rfl) (by kernel_rfl) (by kernel_rfl) (by kernel_rfl) fun X hb hp => by
    obtain ⟨a0, k1, _⟩ := X
    obtain ⟨N, h⟩ := h a0 k1 hb.1
    exact ⟨N, (f18m N a0 k1).trans (h N (Nat.le_refl N))⟩
theorem e18ok : EntryOk Try.prog 18 e18 := f18ok laws_heldLaurent.ok
end Go.Fw
set_option linter.unusedVariables false
set_option linter.unusedSimpArgs false
set_option maxRecDepth 100000
namespace Go.Fw
open Go.Proofs
/-! ### loop.example/g03115/laws.FnExactMonomialLaurent -/
noncomputable def f5sig : Sig := ⟨[⟨.sl 3 (.int .i64), false, false⟩], [⟨.bool, false, false⟩]⟩
noncomputable def e5 : Entry := ⟨f5sig, none, fun X => ((), ((laws_FnExactMonomialLaurent.g X.1), ()))⟩
noncomputable def f5G : Nat → Option Entry := addG (addG (addG (addG (addG (addG (addG (addG (fun _ => none) 16 e16) 17 e17) 18 e18) 19 e19) 20 e20) 21 e21) 22 e22) 23 e23
theorem f5GOk : GOk Try.prog f5G := ((((((((GOk.nil).add e16ok (by kernel_rfl)).add e17ok (by kernel_rfl)).add e18ok (by kernel_rfl)).add e19ok (by kernel_rfl)).add e20ok (by kernel_rfl)).add e21ok (by kernel_rfl)).add e22ok (by kernel_rfl)).add e23ok (by kernel_rfl)
noncomputable def f5lE : Clean := ⟨[], [], [], [], []⟩
noncomputable def f5s0 (aExp0 : List Int) : St := initSt f5sig.ps (aExp0, ())
noncomputable def f5s1 (t2 : Bool) : St := stOf [(2, .c (.bool t2))] [] []
noncomputable def f5l1 : Clean := ⟨[2], [], [], [], []⟩
noncomputable def f5B : Nat → Option Clean := lookL [(1000000, f5l1)]
noncomputable abbrev f5i {ρ : Type} (N : Nat) (c : Code) (p : Plan) (σ : St) (K : KT ρ) : Option ρ := iCode f5G tab f5B N c p σ K
noncomputable def f5c0 := codeAt (bodyOf Try.f5) []
theorem f5t0 {ρ : Type} (N : Nat) (aExp0 : List Int) (K : KT ρ) : f5i N f5c0 .n (f5s0 aExp0) (joinK (some f5lE) K) =
  laws_FnExactMonomialLaurent.Z0 N aExp0 (fun t2 => K .ret (f5s1 t2)) := by kernel_rfl
theorem f5m (N : Nat) (aExp0 : List Int) : f5i N f5c0 .n (f5s0 aExp0) (joinK (some f5lE) (finK tab f5sig Try.f5.results.toList)) = laws_FnExactMonomialLaurent.Z0 N aExp0 (fun t2 => some ((), (t2, ()))) :=
  (f5t0 N aExp0 (finK tab f5sig Try.f5.results.toList)).trans (by kernel_rfl)
theorem f5ok (h : laws_FnExactMonomialLaurent.Spec) : EntryOk Try.prog 5 e5 :=
  entry_of_code (sig := f5sig) (c := f5c0) (pl := .n) (je := (some f5lE)) (B := f5B) Try.func5 (by kernel_rfl) (by kernel_rfl) (by kernel_rfl) tabOk f5GOk (by kernel_rfl) (by kernel_rfl) (by kernel_rfl) (by kernel_rfl) fun X hb hp => by
    obtain ⟨aExp0, _⟩ := X
    obtain ⟨N, h⟩ := h aExp0 hb.1
    exact ⟨N, (f5m N aExp0).trans (h N (Nat.le_refl N))⟩
theorem e5ok : EntryOk Try.prog 5 e5 := f5ok laws_FnExactMonomialLaurent.ok
end Go.Fw
