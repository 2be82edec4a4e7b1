/- The ties: the program's text comes to the plain functions. Nothing is assumed. -/
import Derived.Test.YtojjkghallginaaFwb
import Derived.Test.YtojjkghallginaaProg
import Derived.Test.YtojjkghallginaaPuFnExactConstantLaurenta
set_option linter.unusedVariables false
set_option linter.unusedSimpArgs false
set_option maxRecDepth 100000
namespace Go.Fw
open Go.Proofs
def tab : Tab := lookTab [
  (2, ⟨false, .int .i64, [.int .i64 0], [], none, 8⟩),
  (3, ⟨false, .int .i64, [.int .i64 0], [], none, 8⟩),
  (4, ⟨false, .bool, [.bool false], [], none, 1⟩),
  (5, ⟨false, .int .u8, [.int .u8 0], [], none, 1⟩),
  (6, ⟨false, .int .u8, [.int .u8 0], [], none, 1⟩),
  (7, ⟨true, .pair (.int .i64) (.pair (.int .i64) (.pair (.bool) (.int .u8))), [.int .i64 0, .int .i64 0, .bool false, .int .u8 0], [(0, 1, false), (1, 1, false), (2, 1, false), (3, 1, false)], none, 24⟩),
  (8, ⟨true, .pair (.int .i64) (.pair (.int .i64) (.pair (.bool) (.int .u8))), [.int .i64 0, .int .i64 0, .bool false, .int .u8 0], [(0, 1, false), (1, 1, false), (2, 1, false), (3, 1, false)], none, 24⟩),
  (9, ⟨false, .str, [.str ByteArray.empty], [], none, 16⟩),
  (10, ⟨false, .str, [.str ByteArray.empty], [], none, 16⟩),
  (11, ⟨false, .str, [.str ByteArray.empty], [], none, 16⟩),
  (12, ⟨false, .int .u64, [.int .u64 0], [], none, 8⟩),
  (13, ⟨true, .pair (.str) (.int .u64), [.str ByteArray.empty, .int .u64 0], [(0, 1, false), (1, 1, false)], none, 24⟩),
  (14, ⟨true, .pair (.str) (.int .u64), [.str ByteArray.empty, .int .u64 0], [(0, 1, false), (1, 1, false)], none, 24⟩),
  (21, ⟨false, .int .i32, [.int .i32 0], [], none, 4⟩),
  (23, ⟨false, .sl 59 (.pair (.sl 3 (.int .i64)) (.int .i64)), [.nil], [], some 59, 24⟩),
  (24, ⟨true, .pair (.int .i64) (.sl 59 (.pair (.sl 3 (.int .i64)) (.int .i64))), [.int .i64 0, .nil], [(0, 1, false), (1, 1, false)], none, 32⟩),
  (25, ⟨true, .pair (.int .i64) (.sl 59 (.pair (.sl 3 (.int .i64)) (.int .i64))), [.int .i64 0, .nil], [(0, 1, false), (1, 1, false)], none, 32⟩),
  (30, ⟨false, .sl 3 (.int .i64), [.nil], [], some 3, 24⟩),
  (36, ⟨false, .sl 79 (.pair (.sl 3 (.int .i64)) (.int .i64)), [.nil], [], some 79, 24⟩),
  (37, ⟨true, .pair (.int .i64) (.sl 79 (.pair (.sl 3 (.int .i64)) (.int .i64))), [.int .i64 0, .nil], [(0, 1, false), (1, 1, false)], none, 32⟩),
  (38, ⟨true, .pair (.int .i64) (.sl 79 (.pair (.sl 3 (.int .i64)) (.int .i64))), [.int .i64 0, .nil], [(0, 1, false), (1, 1, false)], none, 32⟩),
  (43, ⟨true, .pair (.int .i64) (.pair (.int .i64) (.sl 3 (.int .i64))), [.int .i64 0, .int .i64 0, .nil], [(0, 1, false), (1, 1, false), (2, 1, false)], none, 40⟩),
  (44, ⟨true, .pair (.int .i64) (.pair (.int .i64) (.sl 3 (.int .i64))), [.int .i64 0, .int .i64 0, .nil], [(0, 1, false), (1, 1, false), (2, 1, false)], none, 40⟩),
  (47, ⟨true, .pair (.int .i64) (.pair (.int .i64) (.sl 3 (.int .i64))), [.int .i64 0, .int .i64 0, .nil], [(0, 1, false), (1, 1, false), (2, 1, false)], none, 40⟩),
  (58, ⟨true, .pair (.sl 3 (.int .i64)) (.int .i64), [.nil, .int .i64 0], [(0, 1, false), (1, 1, false)], none, 32⟩),
  (59, ⟨true, .pair (.sl 3 (.int .i64)) (.int .i64), [.nil, .int .i64 0], [(0, 1, false), (1, 1, false)], none, 32⟩),
  (71, ⟨false, .sl 4 (.bool), [.nil], [], some 4, 24⟩),
  (79, ⟨true, .pair (.sl 3 (.int .i64)) (.int .i64), [.nil, .int .i64 0], [(0, 1, false), (1, 1, false)], none, 32⟩),
  (92, ⟨false, .int .u32, [.int .u32 0], [], none, 4⟩),
  (93, ⟨false, .int .u8, [.int .u8 0], [], none, 1⟩),
  (94, ⟨false, .int .u8, [.int .u8 0], [], none, 1⟩),
  (97, ⟨false, .int .i32, [.int .i32 0], [], none, 4⟩),
  (98, ⟨false, .int .i32, [.int .i32 0], [], none, 4⟩)]
theorem tabOk : TOk Try.prog tab := TOk.of (by kernel_rfl)
end Go.Fw
set_option linter.unusedVariables false
set_option linter.unusedSimpArgs false
set_option maxRecDepth 100000
namespace Go.Fw
open Go.Proofs
/-! ### loop.example/g03115/spec.l1In -/
noncomputable def f48sig : Sig := ⟨[⟨.int .i64, false, false⟩, ⟨.int .i64, false, false⟩, ⟨.int .i64, false, false⟩], [⟨.bool, false, false⟩]⟩
noncomputable def e48 : Entry := ⟨f48sig, none, fun X => ((), ((spec_l1In.g X.1 X.2.1 X.2.2.1), ()))⟩
noncomputable def f48G : Nat → Option Entry := (fun _ => none)
theorem f48GOk : GOk Try.prog f48G := GOk.nil
noncomputable def f48lE : Clean := ⟨[], [], [], [], []⟩
noncomputable def f48s0 (n0 : Int) (low1 : Int) (high2 : Int) : St := initSt f48sig.ps (n0, (low1, (high2, ())))
noncomputable def f48s1 (t6 : Bool) : St := stOf [(6, .c (.bool t6))] [] []
noncomputable def f48l1 : Clean := ⟨[6], [], [], [], []⟩
noncomputable def f48B : Nat → Option Clean := lookL [(1000000, f48l1)]
noncomputable abbrev f48i {ρ : Type} (N : Nat) (c : Code) (p : Plan) (σ : St) (K : KT ρ) : Option ρ := iCode f48G tab f48B N c p σ K
noncomputable def f48c0 := codeAt (bodyOf Try.f48) []
theorem f48t0 {ρ : Type} (N : Nat) (n0 : Int) (low1 : Int) (high2 : Int) (K : KT ρ) : f48i N f48c0 .n (f48s0 n0 low1 high2) (joinK (some f48lE) K) =
  spec_l1In.Z0 N n0 low1 high2 (fun t6 => K .ret (f48s1 t6)) := by kernel_rfl
theorem f48m (N : Nat) (n0 : Int) (low1 : Int) (high2 : Int) : f48i N f48c0 .n (f48s0 n0 low1 high2) (joinK (some f48lE) (finK tab f48sig Try.f48.results.toList)) = spec_l1In.Z0 N n0 low1 high2 (fun t6 => some ((), (t6, ()))) :=
  (f48t0 N n0 low1 high2 (finK tab f48sig Try.f48.results.toList)).trans (by kernel_rfl)
theorem f48ok (h : spec_l1In.Spec) : EntryOk Try.prog 48 e48 :=
  entry_of_code (sig := f48sig) (c := f48c0) (pl := .n) (je := (some f48lE)) (B := f48B) Try.func48 (by kernel_rfl) (by kernel_rfl) (by kernel_rfl) tabOk f48GOk (by kernel_rfl) (by kernel_rfl) (by kernel_rfl) (by kernel_rfl) fun X hb hp => by
    obtain ⟨n0, low1, high2, _⟩ := X
    obtain ⟨N, h⟩ := h n0 low1 high2
    exact ⟨N, (f48m N n0 low1 high2).trans (h N (Nat.le_refl N))⟩
theorem e48ok : EntryOk Try.prog 48 e48 := f48ok spec_l1In.ok
end Go.Fw
set_option linter.unusedVariables false
set_option linter.unusedSimpArgs false
set_option maxRecDepth 100000
namespace Go.Fw
open Go.Proofs
/-! ### loop.example/g03115/spec.ConstantLaurent -/
noncomputable def f14sig : Sig := ⟨[⟨.int .i64, false, false⟩, ⟨.int .i64, false, false⟩], [⟨.pair (.int .i64) (.sl 59 (.pair (.sl 3 (.int .i64)) (.int .i64))), true, false⟩]⟩
noncomputable def e14 : Entry := ⟨f14sig, none, fun X => ((), ((spec_ConstantLaurent.g X.1 X.2.1), ()))⟩
noncomputable def f14G : Nat → Option Entry := addG (fun _ => none) 48 e48
theorem f14GOk : GOk Try.prog f14G := (GOk.nil).add e48ok (by kernel_rfl)
noncomputable def f14lE : Clean := ⟨[], [], [], [], []⟩
noncomputable def f14s0 (vars0 : Int) (k1 : Int) : St := initSt f14sig.ps (vars0, (k1, ()))
noncomputable def f14s1 (t4_1 : List (List Int × Int)) (t4_0 : Int) : St := stOf [(4, .c (.box 4 0))] [(4, (25, [.int .i64 t4_0, .own 20000257]))] [(20000257, (⟨59, .pair (.sl 3 (.int .i64)) (.int .i64), t4_1, true, false⟩ : Row))]
noncomputable def f14l1 : Clean := ⟨[4], [4], [⟨⟨true, 4, 1⟩, 30000000, 59, .pair (.sl 3 (.int .i64)) (.int .i64), true⟩], [], [(⟨true, 4, 1⟩, 20000257)]⟩
noncomputable def f14B : Nat → Option Clean := lookL [(1000000, f14l1)]
noncomputable abbrev f14i {ρ : Type} (N : Nat) (c : Code) (p : Plan) (σ : St) (K : KT ρ) : Option ρ := iCode f14G tab f14B N c p σ K
noncomputable def f14c0 := codeAt (bodyOf Try.f14) []
theorem f14t0 {ρ : Type} (N : Nat) (vars0 : Int) (k1 : Int) (K : KT ρ) : f14i N f14c0 .n (f14s0 vars0 k1) (joinK (some f14lE) K) =
  spec_ConstantLaurent.Z0 N vars0 k1 (fun t4_1 t4_0 => K .ret (f14s1 t4_1 t4_0)) := by kernel_rfl
theorem f14m (N : Nat) (vars0 : Int) (k1 : Int) : f14i N f14c0 .n (f14s0 vars0 k1) (joinK (some f14lE) (finK tab f14sig Try.f14.results.toList)) = spec_ConstantLaurent.Z0 N vars0 k1 (fun t4_1 t4_0 => some ((), ((t4_0, t4_1), ()))) :=
  (f14t0 N vars0 k1 (finK tab f14sig Try.f14.results.toList)).trans (by kernel_rfl)
theorem f14ok (h : spec_ConstantLaurent.Spec) : EntryOk Try.prog 14 e14 :=
  entry_of_code (sig := f14sig) (c := f14c0) (pl := .n) (je := (some f14lE)) (B := f14B) Try.func14 (by kernel_rfl) (by kernel_rfl) (by kernel_rfl) tabOk f14GOk (by kernel_rfl) (by kernel_rfl) (by kernel_rfl) (by kernel_rfl) fun X hb hp => by
    obtain ⟨vars0, k1, _⟩ := X
    obtain ⟨N, h⟩ := h vars0 k1
    exact ⟨N, (f14m N vars0 k1).trans (h N (Nat.le_refl N))⟩
theorem e14ok : EntryOk Try.prog 14 e14 := f14ok spec_ConstantLaurent.ok
end Go.Fw
set_option linter.unusedVariables false
set_option linter.unusedSimpArgs false
set_option maxRecDepth 100000
namespace Go.Fw
open Go.Proofs
/-! ### loop.example/g03115/impl.within -/
noncomputable def f49sig : Sig := ⟨[⟨.int .i64, false, false⟩, ⟨.int .i64, false, false⟩, ⟨.int .i64, false, false⟩], [⟨.bool, false, false⟩]⟩
noncomputable def e49 : Entry := ⟨f49sig, none, fun X => ((), ((impl_within.g X.1 X.2.1 X.2.2.1), ()))⟩
noncomputable def f49G : Nat → Option Entry := (fun _ => none)
theorem f49GOk : GOk Try.prog f49G := GOk.nil
noncomputable def f49lE : Clean := ⟨[], [], [], [], []⟩
noncomputable def f49s0 (n0 : Int) (low1 : Int) (high2 : Int) : St := initSt f49sig.ps (n0, (low1, (high2, ())))
noncomputable def f49s1 (t6 : Bool) : St := stOf [(6, .c (.bool t6))] [] []
noncomputable def f49l1 : Clean := ⟨[6], [], [], [], []⟩
noncomputable def f49B : Nat → Option Clean := lookL [(1000000, f49l1)]
noncomputable abbrev f49i {ρ : Type} (N : Nat) (c : Code) (p : Plan) (σ : St) (K : KT ρ) : Option ρ := iCode f49G tab f49B N c p σ K
noncomputable def f49c0 := codeAt (bodyOf Try.f49) []
theorem f49t0 {ρ : Type} (N : Nat) (n0 : Int) (low1 : Int) (high2 : Int) (K : KT ρ) : f49i N f49c0 .n (f49s0 n0 low1 high2) (joinK (some f49lE) K) =
  impl_within.Z0 N n0 low1 high2 (fun t6 => K .ret (f49s1 t6)) := by kernel_rfl
theorem f49m (N : Nat) (n0 : Int) (low1 : Int) (high2 : Int) : f49i N f49c0 .n (f49s0 n0 low1 high2) (joinK (some f49lE) (finK tab f49sig Try.f49.results.toList)) = impl_within.Z0 N n0 low1 high2 (fun t6 => some ((), (t6, ()))) :=
  (f49t0 N n0 low1 high2 (finK tab f49sig Try.f49.results.toList)).trans (by kernel_rfl)
theorem f49ok (h : impl_within.Spec) : EntryOk Try.prog 49 e49 :=
  entry_of_code (sig := f49sig) (c := f49c0) (pl := .n) (je := (some f49lE)) (B := f49B) Try.func49 (by kernel_rfl) (by kernel_rfl) (by kernel_rfl) tabOk f49GOk (by kernel_rfl) (by kernel_rfl) (by kernel_rfl) (by kernel_rfl) fun X hb hp => by
    obtain ⟨n0, low1, high2, _⟩ := X
    obtain ⟨N, h⟩ := h n0 low1 high2
    exact ⟨N, (f49m N n0 low1 high2).trans (h N (Nat.le_refl N))⟩
theorem e49ok : EntryOk Try.prog 49 e49 := f49ok impl_within.ok
end Go.Fw
set_option linter.unusedVariables false
set_option linter.unusedSimpArgs false
set_option maxRecDepth 100000
namespace Go.Fw
open Go.Proofs
/-! ### loop.example/g03115/impl.ConstantLaurent -/
noncomputable def f15sig : Sig := ⟨[⟨.int .i64, false, false⟩, ⟨.int .i64, false, false⟩], [⟨.pair (.int .i64) (.sl 59 (.pair (.sl 3 (.int .i64)) (.int .i64))), true, false⟩]⟩
noncomputable def e15 : Entry := ⟨f15sig, none, fun X => ((), ((impl_ConstantLaurent.g X.1 X.2.1), ()))⟩
noncomputable def f15G : Nat → Option Entry := addG (fun _ => none) 49 e49
theorem f15GOk : GOk Try.prog f15G := (GOk.nil).add e49ok (by kernel_rfl)
noncomputable def f15lE : Clean := ⟨[], [], [], [], []⟩
noncomputable def f15s0 (vars0 : Int) (k1 : Int) : St := initSt f15sig.ps (vars0, (k1, ()))
noncomputable def f15s1 (t4_1 : List (List Int × Int)) (t4_0 : Int) : St := stOf [(4, .c (.box 4 0))] [(4, (25, [.int .i64 t4_0, .own 20000257]))] [(20000257, (⟨59, .pair (.sl 3 (.int .i64)) (.int .i64), t4_1, true, false⟩ : Row))]
noncomputable def f15l1 : Clean := ⟨[4], [4], [⟨⟨true, 4, 1⟩, 30000000, 59, .pair (.sl 3 (.int .i64)) (.int .i64), true⟩], [], [(⟨true, 4, 1⟩, 20000257)]⟩
noncomputable def f15B : Nat → Option Clean := lookL [(1000000, f15l1)]
noncomputable abbrev f15i {ρ : Type} (N : Nat) (c : Code) (p : Plan) (σ : St) (K : KT ρ) : Option ρ := iCode f15G tab f15B N c p σ K
noncomputable def f15c0 := codeAt (bodyOf Try.f15) []
theorem f15t0 {ρ : Type} (N : Nat) (vars0 : Int) (k1 : Int) (K : KT ρ) : f15i N f15c0 .n (f15s0 vars0 k1) (joinK (some f15lE) K) =
  impl_ConstantLaurent.Z0 N vars0 k1 (fun t4_1 t4_0 => K .ret (f15s1 t4_1 t4_0)) := by kernel_rfl
theorem f15m (N : Nat) (vars0 : Int) (k1 : Int) : f15i N f15c0 .n (f15s0 vars0 k1) (joinK (some f15lE) (finK tab f15sig Try.f15.results.toList)) = impl_ConstantLaurent.Z0 N vars0 k1 (fun t4_1 t4_0 => some ((), ((t4_0, t4_1), ()))) :=
  (f15t0 N vars0 k1 (finK tab f15sig Try.f15.results.toList)).trans (by kernel_rfl)
theorem f15ok (h : impl_ConstantLaurent.Spec) : EntryOk Try.prog 15 e15 :=
  entry_of_code (sig := f15sig) (c := f15c0) (pl := .n) (je := (some f15lE)) (B := f15B) Try.func15 (by kernel_rfl) (by kernel_rfl) (by kernel_rfl) tabOk f15GOk (by kernel_rfl) (by kernel_rfl) (by kernel_rfl) (by kernel_rfl) fun X hb hp => by
    obtain ⟨vars0, k1, _⟩ := X
    obtain ⟨N, h⟩ := h vars0 k1
    exact ⟨N, (f15m N vars0 k1).trans (h N (Nat.le_refl N))⟩
theorem e15ok : EntryOk Try.prog 15 e15 := f15ok impl_ConstantLaurent.ok
end Go.Fw
set_option linter.unusedVariables false
set_option linter.unusedSimpArgs false
set_option maxRecDepth 100000
namespace Go.Fw
open Go.Proofs
/-! ### loop.example/g03115/laws.eqIntS -/
noncomputable def f22sig : Sig := ⟨[⟨.sl 3 (.int .i64), false, false⟩, ⟨.sl 3 (.int .i64), false, false⟩], [⟨.bool, false, false⟩]⟩
noncomputable def e22 : Entry := ⟨f22sig, none, fun X => ((), ((laws_eqIntS.g X.1 X.2.1), ()))⟩
noncomputable def f22G : Nat → Option Entry := (fun _ => none)
theorem f22GOk : GOk Try.prog f22G := GOk.nil
noncomputable def f22lE : Clean := ⟨[], [], [], [], []⟩
noncomputable def f22s0 (a0 : List Int) (b1 : List Int) : St := initSt f22sig.ps (a0, (b1, ()))
noncomputable def f22s1 (a0 : List Int) (b1 : List Int) : St := stOf [(0, .c (.sn 3 (.int .i64) a0 none)), (1, .c (.sn 3 (.int .i64) b1 none))] [] []
noncomputable def f22l1 : Clean := ⟨[0, 1], [], [], [], []⟩
noncomputable def f22s2 (a0 : List Int) (b1 : List Int) (i5 : Int) : St := stOf [(0, .c (.sn 3 (.int .i64) a0 none)), (1, .c (.sn 3 (.int .i64) b1 none)), (5, .c (.int .i64 i5))] [] []
noncomputable def f22l2 : Clean := ⟨[0, 1, 5], [], [], [], []⟩
noncomputable def f22s3  : St := stOf [] [] []
noncomputable def f22l3 : Clean := ⟨[], [], [], [], []⟩
noncomputable def f22s4 (t4 : Bool) : St := stOf [(4, .c (.bool t4))] [] []
noncomputable def f22l4 : Clean := ⟨[4], [], [], [], []⟩
noncomputable def f22B : Nat → Option Clean := lookL [(0, f22l3), (1000000, f22l4)]
noncomputable abbrev f22i {ρ : Type} (N : Nat) (c : Code) (p : Plan) (σ : St) (K : KT ρ) : Option ρ := iCode f22G tab f22B N c p σ K
noncomputable def f22c1 := codeAt (bodyOf Try.f22) [0]
theorem f22t1 {ρ : Type} (N : Nat) (a0 : List Int) (b1 : List Int) (K : KT ρ) : f22i N f22c1 .n (f22s0 a0 b1) (joinK (some f22l1) K) =
  laws_eqIntS.Z1 N a0 b1 (fun a0 b1 => K .nrm (f22s1 a0 b1)) := by kernel_rfl
noncomputable def f22c3 := codeAt (bodyOf Try.f22) [1,0]
theorem f22t3 {ρ : Type} (N : Nat) (a0 : List Int) (b1 : List Int) (K : KT ρ) : f22i N f22c3 .n (f22s1 a0 b1) (joinK (some f22l1) K) =
  laws_eqIntS.Z3 N a0 b1 (fun a0 b1 => K .nrm (f22s1 a0 b1)) (fun t4 => K .ret (f22s4 t4)) := by kernel_rfl
noncomputable def f22c6 := codeAt (bodyOf Try.f22) [1,1,0,0]
theorem f22t6 {ρ : Type} (N : Nat) (a0 : List Int) (b1 : List Int) (K : KT ρ) : f22i N f22c6 .n (f22s1 a0 b1) (joinK (some f22l2) K) =
  laws_eqIntS.Z6 N a0 b1 (fun a0 b1 i5 => K .nrm (f22s2 a0 b1 i5)) := by kernel_rfl
noncomputable def f22c9 := codeAt (bodyOf Try.f22) [1,1,0,1,0,0]
theorem f22t9 {ρ : Type} (N : Nat) (a0 : List Int) (b1 : List Int) (i5 : Int) (K : KT ρ) : f22i N f22c9 .n (f22s2 a0 b1 i5) (joinK (some f22l2) K) =
  laws_eqIntS.Z9 N a0 b1 i5 (fun a0 b1 i5 => K .nrm (f22s2 a0 b1 i5)) (K (.exit 0) f22s3) (fun t4 => K .ret (f22s4 t4)) := by kernel_rfl
noncomputable def f22c8 := codeAt (bodyOf Try.f22) [1,1,0,1,0]
noncomputable def f22p8 : Plan := .mk none (some f22l2) .n .n
noncomputable abbrev f22w8 {ρ : Type} (N : Nat) (M : Nat) (σ : St) (K : KT ρ) : Option ρ := loopC (fun σ K => f22i N f22c9 .n σ K) f22l2 M σ K
theorem f22t8L {ρ : Type} (N : Nat) (K : KT ρ) : ∀ (M : Nat) (a0 : List Int) (b1 : List Int) (i5 : Int), f22w8 N M (f22s2 a0 b1 i5) K =
  laws_eqIntS.Z8L N (K (.exit 0) f22s3) (fun t4 => K .ret (f22s4 t4)) M a0 b1 i5
  | 0, _, _, _ => rfl
  | M + 1, a0, b1, i5 => viaRound (fun k => laws_eqIntS.Z9 N a0 b1 i5 k (K (.exit 0) f22s3) (fun t4 => K .ret (f22s4 t4))) (f22t9 N a0 b1 i5 (seqK (fun σ => f22w8 N M σ K) K)) (funext fun a0 => funext fun b1 => funext fun i5 => f22t8L N K M a0 b1 i5) (by kernel_rfl) (by kernel_rfl)
theorem f22t8 {ρ : Type} (N : Nat) (a0 : List Int) (b1 : List Int) (i5 : Int) (K : KT ρ) : f22i N f22c8 f22p8 (f22s2 a0 b1 i5) (joinK (some f22l3) K) =
  laws_eqIntS.Z8 N a0 b1 i5 (K (.exit 0) f22s3) (fun t4 => K .ret (f22s4 t4)) :=
  viaLoop (by kernel_rfl) (by kernel_rfl) (σ' := f22s2 a0 b1 i5) (by kernel_rfl) (f22t8L N (joinK (some f22l3) K) N a0 b1 i5) (by kernel_rfl)
noncomputable def f22c7 := codeAt (bodyOf Try.f22) [1,1,0,1]
noncomputable def f22p7 : Plan := .mk (some f22l3) none f22p8 .n
theorem f22t7 {ρ : Type} (N : Nat) (a0 : List Int) (b1 : List Int) (i5 : Int) (K : KT ρ) : f22i N f22c7 f22p7 (f22s2 a0 b1 i5) (joinK (some f22l3) K) =
  laws_eqIntS.Z7 N a0 b1 i5 (K .nrm f22s3) (fun t4 => K .ret (f22s4 t4)) :=
  viaBlock (by kernel_rfl) (by kernel_rfl) (f22t8 N a0 b1 i5 (blockK 0 (joinK (some f22l3) K))) (by kernel_rfl)
noncomputable def f22c5 := codeAt (bodyOf Try.f22) [1,1,0]
noncomputable def f22p5 : Plan := .mk (some f22l2) none .n f22p7
theorem f22t5 {ρ : Type} (N : Nat) (a0 : List Int) (b1 : List Int) (K : KT ρ) : f22i N f22c5 f22p5 (f22s1 a0 b1) (joinK (some f22l3) K) =
  laws_eqIntS.Z5 N a0 b1 (K .nrm f22s3) (fun t4 => K .ret (f22s4 t4)) :=
  viaSeq (fun k => laws_eqIntS.Z6 N a0 b1 k) (by kernel_rfl) (by kernel_rfl) (f22t6 N a0 b1 (seqK (fun σ => f22i N f22c7 f22p7 σ (joinK (some f22l3) K)) (joinK (some f22l3) K))) (funext fun a0 => funext fun b1 => funext fun i5 => f22t7 N a0 b1 i5 K) (by kernel_rfl) (by kernel_rfl)
noncomputable def f22c10 := codeAt (bodyOf Try.f22) [1,1,1]
theorem f22t10 {ρ : Type} (N : Nat)  (K : KT ρ) : f22i N f22c10 .n f22s3 (joinK (some f22lE) K) =
  laws_eqIntS.Z10 N (fun t4 => K .ret (f22s4 t4)) := by kernel_rfl
noncomputable def f22c4 := codeAt (bodyOf Try.f22) [1,1]
noncomputable def f22p4 : Plan := .mk (some f22l3) none f22p5 .n
theorem f22t4 {ρ : Type} (N : Nat) (a0 : List Int) (b1 : List Int) (K : KT ρ) : f22i N f22c4 f22p4 (f22s1 a0 b1) (joinK (some f22lE) K) =
  laws_eqIntS.Z4 N a0 b1 (fun t4 => K .ret (f22s4 t4)) :=
  viaSeq (fun k => laws_eqIntS.Z5 N a0 b1 k (fun t4 => K .ret (f22s4 t4))) (by kernel_rfl) (by kernel_rfl) (f22t5 N a0 b1 (seqK (fun σ => f22i N f22c10 .n σ (joinK (some f22lE) K)) (joinK (some f22lE) K))) (f22t10 N K) (by kernel_rfl) (by kernel_rfl)
noncomputable def f22c2 := codeAt (bodyOf Try.f22) [1]
noncomputable def f22p2 : Plan := .mk (some f22l1) none .n f22p4
theorem f22t2 {ρ : Type} (N : Nat) (a0 : List Int) (b1 : List Int) (K : KT ρ) : f22i N f22c2 f22p2 (f22s1 a0 b1) (joinK (some f22lE) K) =
  laws_eqIntS.Z2 N a0 b1 (fun t4 => K .ret (f22s4 t4)) :=
  viaSeq (fun k => laws_eqIntS.Z3 N a0 b1 k (fun t4 => K .ret (f22s4 t4))) (by kernel_rfl) (by kernel_rfl) (f22t3 N a0 b1 (seqK (fun σ => f22i N f22c4 f22p4 σ (joinK (some f22lE) K)) (joinK (some f22lE) K))) (funext fun a0 => funext fun b1 => f22t4 N a0 b1 K) (by kernel_rfl) (by kernel_rfl)
noncomputable def f22c0 := codeAt (bodyOf Try.f22) []
noncomputable def f22p0 : Plan := .mk (some f22l1) none .n f22p2
theorem f22t0 {ρ : Type} (N : Nat) (a0 : List Int) (b1 : List Int) (K : KT ρ) : f22i N f22c0 f22p0 (f22s0 a0 b1) (joinK (some f22lE) K) =
  laws_eqIntS.Z0 N a0 b1 (fun t4 => K .ret (f22s4 t4)) :=
  viaSeq (fun k => laws_eqIntS.Z1 N a0 b1 k) (by kernel_rfl) (by kernel_rfl) (f22t1 N a0 b1 (seqK (fun σ => f22i N f22c2 f22p2 σ (joinK (some f22lE) K)) (joinK (some f22lE) K))) (funext fun a0 => funext fun b1 => f22t2 N a0 b1 K) (by kernel_rfl) (by kernel_rfl)
theorem f22m (N : Nat) (a0 : List Int) (b1 : List Int) : f22i N f22c0 f22p0 (f22s0 a0 b1) (joinK (some f22lE) (finK tab f22sig Try.f22.results.toList)) = laws_eqIntS.Z0 N a0 b1 (fun t4 => some ((), (t4, ()))) :=
  (f22t0 N a0 b1 (finK tab f22sig Try.f22.results.toList)).trans (by kernel_rfl)
theorem f22ok (h : laws_eqIntS.Spec) : EntryOk Try.prog 22 e22 :=
  entry_of_code (sig := f22sig) (c := f22c0) (pl := f22p0) (je := (some f22lE)) (B := f22B) Try.func22 (by kernel_rfl) (by kernel_rfl) (by kernel_rfl) tabOk f22GOk (by kernel_rfl) (by kernel_rfl) (by kernel_rfl) (by kernel_rfl) fun X hb hp => by
    obtain ⟨a0, b1, _⟩ := X
    obtain ⟨N, h⟩ := h a0 b1 hb.1 hb.2.1
    exact ⟨N, (f22m N a0 b1).trans (h N (Nat.le_refl N))⟩
theorem e22ok : EntryOk Try.prog 22 e22 := f22ok laws_eqIntS.ok
end Go.Fw
set_option linter.unusedVariables false
set_option linter.unusedSimpArgs false
set_option maxRecDepth 100000
namespace Go.Fw
open Go.Proofs
/-! ### loop.example/g03115/laws.eqTerm -/
noncomputable def f78sig : Sig := ⟨[⟨.pair (.sl 3 (.int .i64)) (.int .i64), true, false⟩, ⟨.pair (.sl 3 (.int .i64)) (.int .i64), true, false⟩], [⟨.bool, false, false⟩]⟩
noncomputable def e78 : Entry := ⟨f78sig, none, fun X => ((), ((laws_eqTerm.g X.1 X.2.1), ()))⟩
noncomputable def f78G : Nat → Option Entry := addG (fun _ => none) 22 e22
theorem f78GOk : GOk Try.prog f78G := (GOk.nil).add e22ok (by kernel_rfl)
noncomputable def f78lE : Clean := ⟨[], [], [], [], []⟩
noncomputable def f78s0 (a0 : List Int × Int) (b1 : List Int × Int) : St := initSt f78sig.ps (a0, (b1, ()))
noncomputable def f78s1 (t4 : Bool) : St := stOf [(4, .c (.bool t4))] [] []
noncomputable def f78l1 : Clean := ⟨[4], [], [], [], []⟩
noncomputable def f78B : Nat → Option Clean := lookL [(1000000, f78l1)]
noncomputable abbrev f78i {ρ : Type} (N : Nat) (c : Code) (p : Plan) (σ : St) (K : KT ρ) : Option ρ := iCode f78G tab f78B N c p σ K
noncomputable def f78c0 := codeAt (bodyOf Try.f78) []
theorem f78t0 {ρ : Type} (N : Nat) (a0 : List Int × Int) (b1 : List Int × Int) (K : KT ρ) : f78i N f78c0 .n (f78s0 a0 b1) (joinK (some f78lE) K) =
  laws_eqTerm.Z0 N a0 b1 (fun t4 => K .ret (f78s1 t4)) := by kernel_rfl
theorem f78m (N : Nat) (a0 : List Int × Int) (b1 : List Int × Int) : f78i N f78c0 .n (f78s0 a0 b1) (joinK (some f78lE) (finK tab f78sig Try.f78.results.toList)) = laws_eqTerm.Z0 N a0 b1 (fun t4 => some ((), (t4, ()))) :=
  (f78t0 N a0 b1 (finK tab f78sig Try.f78.results.toList)).trans (by kernel_rfl)
theorem f78ok (h : laws_eqTerm.Spec) : EntryOk Try.prog 78 e78 :=
  entry_of_code (sig := f78sig) (c := f78c0) (pl := .n) (je := (some f78lE)) (B := f78B) Try.func78 (by kernel_rfl) (by kernel_rfl) (by kernel_rfl) tabOk f78GOk (by kernel_rfl) (by kernel_rfl) (by kernel_rfl) (by kernel_rfl) fun X hb hp => by
    obtain ⟨a0, b1, _⟩ := X
    obtain ⟨N, h⟩ := h a0 b1 hb.1 hb.2.1
    exact ⟨N, (f78m N a0 b1).trans (h N (Nat.le_refl N))⟩
theorem e78ok : EntryOk Try.prog 78 e78 := f78ok laws_eqTerm.ok
end Go.Fw
set_option linter.unusedVariables false
set_option linter.unusedSimpArgs false
set_option maxRecDepth 100000
namespace Go.Fw
open Go.Proofs
/-! ### loop.example/g03115/laws.eqTermS -/
noncomputable def f50sig : Sig := ⟨[⟨.sl 59 (.pair (.sl 3 (.int .i64)) (.int .i64)), false, false⟩, ⟨.sl 59 (.pair (.sl 3 (.int .i64)) (.int .i64)), false, false⟩], [⟨.bool, false, false⟩]⟩
noncomputable def e50 : Entry := ⟨f50sig, none, fun X => ((), ((laws_eqTermS.g X.1 X.2.1), ()))⟩
noncomputable def f50G : Nat → Option Entry := addG (fun _ => none) 78 e78
theorem f50GOk : GOk Try.prog f50G := (GOk.nil).add e78ok (by kernel_rfl)
noncomputable def f50lE : Clean := ⟨[], [], [], [], []⟩
noncomputable def f50s0 (a0 : List (List Int × Int)) (b1 : List (List Int × Int)) : St := initSt f50sig.ps (a0, (b1, ()))
noncomputable def f50s1 (a0 : List (List Int × Int)) (b1 : List (List Int × Int)) : St := stOf [(0, .c (.sn 59 (.pair (.sl 3 (.int .i64)) (.int .i64)) a0 none)), (1, .c (.sn 59 (.pair (.sl 3 (.int .i64)) (.int .i64)) b1 none))] [] []
noncomputable def f50l1 : Clean := ⟨[0, 1], [], [], [], []⟩
noncomputable def f50s2 (a0 : List (List Int × Int)) (b1 : List (List Int × Int)) (i5 : Int) : St := stOf [(0, .c (.sn 59 (.pair (.sl 3 (.int .i64)) (.int .i64)) a0 none)), (1, .c (.sn 59 (.pair (.sl 3 (.int .i64)) (.int .i64)) b1 none)), (5, .c (.int .i64 i5))] [] []
noncomputable def f50l2 : Clean := ⟨[0, 1, 5], [], [], [], []⟩
noncomputable def f50s3  : St := stOf [] [] []
noncomputable def f50l3 : Clean := ⟨[], [], [], [], []⟩
noncomputable def f50s4 (t4 : Bool) : St := stOf [(4, .c (.bool t4))] [] []
noncomputable def f50l4 : Clean := ⟨[4], [], [], [], []⟩
noncomputable def f50B : Nat → Option Clean := lookL [(0, f50l3), (1000000, f50l4)]
noncomputable abbrev f50i {ρ : Type} (N : Nat) (c : Code) (p : Plan) (σ : St) (K : KT ρ) : Option ρ := iCode f50G tab f50B N c p σ K
noncomputable def f50c1 := codeAt (bodyOf Try.f50) [0]
theorem f50t1 {ρ : Type} (N : Nat) (a0 : List (List Int × Int)) (b1 : List (List Int × Int)) (K : KT ρ) : f50i N f50c1 .n (f50s0 a0 b1) (joinK (some f50l1) K) =
  laws_eqTermS.Z1 N a0 b1 (fun a0 b1 => K .nrm (f50s1 a0 b1)) := by kernel_rfl
noncomputable def f50c3 := codeAt (bodyOf Try.f50) [1,0]
theorem f50t3 {ρ : Type} (N : Nat) (a0 : List (List Int × Int)) (b1 : List (List Int × Int)) (K : KT ρ) : f50i N f50c3 .n (f50s1 a0 b1) (joinK (some f50l1) K) =
  laws_eqTermS.Z3 N a0 b1 (fun a0 b1 => K .nrm (f50s1 a0 b1)) (fun t4 => K .ret (f50s4 t4)) := by kernel_rfl
noncomputable def f50c6 := codeAt (bodyOf Try.f50) [1,1,0,0]
theorem f50t6 {ρ : Type} (N : Nat) (a0 : List (List Int × Int)) (b1 : List (List Int × Int)) (K : KT ρ) : f50i N f50c6 .n (f50s1 a0 b1) (joinK (some f50l2) K) =
  laws_eqTermS.Z6 N a0 b1 (fun a0 b1 i5 => K .nrm (f50s2 a0 b1 i5)) := by kernel_rfl
noncomputable def f50c9 := codeAt (bodyOf Try.f50) [1,1,0,1,0,0]
theorem f50t9 {ρ : Type} (N : Nat) (a0 : List (List Int × Int)) (b1 : List (List Int × Int)) (i5 : Int) (K : KT ρ) : f50i N f50c9 .n (f50s2 a0 b1 i5) (joinK (some f50l2) K) =
  laws_eqTermS.Z9 N a0 b1 i5 (fun a0 b1 i5 => K .nrm (f50s2 a0 b1 i5)) (K (.exit 0) f50s3) (fun t4 => K .ret (f50s4 t4)) := by kernel_rfl
noncomputable def f50c8 := codeAt (bodyOf Try.f50) [1,1,0,1,0]
noncomputable def f50p8 : Plan := .mk none (some f50l2) .n .n
noncomputable abbrev f50w8 {ρ : Type} (N : Nat) (M : Nat) (σ : St) (K : KT ρ) : Option ρ := loopC (fun σ K => f50i N f50c9 .n σ K) f50l2 M σ K
theorem f50t8L {ρ : Type} (N : Nat) (K : KT ρ) : ∀ (M : Nat) (a0 : List (List Int × Int)) (b1 : List (List Int × Int)) (i5 : Int), f50w8 N M (f50s2 a0 b1 i5) K =
  laws_eqTermS.Z8L N (K (.exit 0) f50s3) (fun t4 => K .ret (f50s4 t4)) M a0 b1 i5
  | 0, _, _, _ => rfl
  | M + 1, a0, b1, i5 => viaRound (fun k => laws_eqTermS.Z9 N a0 b1 i5 k (K (.exit 0) f50s3) (fun t4 => K .ret (f50s4 t4))) (f50t9 N a0 b1 i5 (seqK (fun σ => f50w8 N M σ K) K)) (funext fun a0 => funext fun b1 => funext fun i5 => f50t8L N K M a0 b1 i5) (by kernel_rfl) (by kernel_rfl)
theorem f50t8 {ρ : Type} (N : Nat) (a0 : List (List Int × Int)) (b1 : List (List Int × Int)) (i5 : Int) (K : KT ρ) : f50i N f50c8 f50p8 (f50s2 a0 b1 i5) (joinK (some f50l3) K) =
  laws_eqTermS.Z8 N a0 b1 i5 (K (.exit 0) f50s3) (fun t4 => K .ret (f50s4 t4)) :=
  viaLoop (by kernel_rfl) (by kernel_rfl) (σ' := f50s2 a0 b1 i5) (by kernel_rfl) (f50t8L N (joinK (some f50l3) K) N a0 b1 i5) (by kernel_rfl)
noncomputable def f50c7 := codeAt (bodyOf Try.f50) [1,1,0,1]
noncomputable def f50p7 : Plan := .mk (some f50l3) none f50p8 .n
theorem f50t7 {ρ : Type} (N : Nat) (a0 : List (List Int × Int)) (b1 : List (List Int × Int)) (i5 : Int) (K : KT ρ) : f50i N f50c7 f50p7 (f50s2 a0 b1 i5) (joinK (some f50l3) K) =
  laws_eqTermS.Z7 N a0 b1 i5 (K .nrm f50s3) (fun t4 => K .ret (f50s4 t4)) :=
  viaBlock (by kernel_rfl) (by kernel_rfl) (f50t8 N a0 b1 i5 (blockK 0 (joinK (some f50l3) K))) (by kernel_rfl)
noncomputable def f50c5 := codeAt (bodyOf Try.f50) [1,1,0]
noncomputable def f50p5 : Plan := .mk (some f50l2) none .n f50p7
theorem f50t5 {ρ : Type} (N : Nat) (a0 : List (List Int × Int)) (b1 : List (List Int × Int)) (K : KT ρ) : f50i N f50c5 f50p5 (f50s1 a0 b1) (joinK (some f50l3) K) =
  laws_eqTermS.Z5 N a0 b1 (K .nrm f50s3) (fun t4 => K .ret (f50s4 t4)) :=
  viaSeq (fun k => laws_eqTermS.Z6 N a0 b1 k) (by kernel_rfl) (by kernel_rfl) (f50t6 N a0 b1 (seqK (fun σ => f50i N f50c7 f50p7 σ (joinK (some f50l3) K)) (joinK (some f50l3) K))) (funext fun a0 => funext fun b1 => funext fun i5 => f50t7 N a0 b1 i5 K) (by kernel_rfl) (by kernel_rfl)
noncomputable def f50c10 := codeAt (bodyOf Try.f50) [1,1,1]
theorem f50t10 {ρ : Type} (N : Nat)  (K : KT ρ) : f50i N f50c10 .n f50s3 (joinK (some f50lE) K) =
  laws_eqTermS.Z10 N (fun t4 => K .ret (f50s4 t4)) := by kernel_rfl
noncomputable def f50c4 := codeAt (bodyOf Try.f50) [1,1]
noncomputable def f50p4 : Plan := .mk (some f50l3) none f50p5 .n
theorem f50t4 {ρ : Type} (N : Nat) (a0 : List (List Int × Int)) (b1 : List (List Int × Int)) (K : KT ρ) : f50i N f50c4 f50p4 (f50s1 a0 b1) (joinK (some f50lE) K) =
  laws_eqTermS.Z4 N a0 b1 (fun t4 => K .ret (f50s4 t4)) :=
  viaSeq (fun k => laws_eqTermS.Z5 N a0 b1 k (fun t4 => K .ret (f50s4 t4))) (by kernel_rfl) (by kernel_rfl) (f50t5 N a0 b1 (seqK (fun σ => f50i N f50c10 .n σ (joinK (some f50lE) K)) (joinK (some f50lE) K))) (f50t10 N K) (by kernel_rfl) (by kernel_rfl)
noncomputable def f50c2 := codeAt (bodyOf Try.f50) [1]
noncomputable def f50p2 : Plan := .mk (some f50l1) none .n f50p4
theorem f50t2 {ρ : Type} (N : Nat) (a0 : List (List Int × Int)) (b1 : List (List Int × Int)) (K : KT ρ) : f50i N f50c2 f50p2 (f50s1 a0 b1) (joinK (some f50lE) K) =
  laws_eqTermS.Z2 N a0 b1 (fun t4 => K .ret (f50s4 t4)) :=
  viaSeq (fun k => laws_eqTermS.Z3 N a0 b1 k (fun t4 => K .ret (f50s4 t4))) (by kernel_rfl) (by kernel_rfl) (f50t3 N a0 b1 (seqK (fun σ => f50i N f50c4 f50p4 σ (joinK (some f50lE) K)) (joinK (some f50lE) K))) (funext fun a0 => funext fun b1 => f50t4 N a0 b1 K) (by kernel_rfl) (by kernel_rfl)
noncomputable def f50c0 := codeAt (bodyOf Try.f50) []
noncomputable def f50p0 : Plan := .mk (some f50l1) none .n f50p2
theorem f50t0 {ρ : Type} (N : Nat) (a0 : List (List Int × Int)) (b1 : List (List Int × Int)) (K : KT ρ) : f50i N f50c0 f50p0 (f50s0 a0 b1) (joinK (some f50lE) K) =
  laws_eqTermS.Z0 N a0 b1 (fun t4 => K .ret (f50s4 t4)) :=
  viaSeq (fun k => laws_eqTermS.Z1 N a0 b1 k) (by kernel_rfl) (by kernel_rfl) (f50t1 N a0 b1 (seqK (fun σ => f50i N f50c2 f50p2 σ (joinK (some f50lE) K)) (joinK (some f50lE) K))) (funext fun a0 => funext fun b1 => f50t2 N a0 b1 K) (by kernel_rfl) (by kernel_rfl)
theorem f50m (N : Nat) (a0 : List (List Int × Int)) (b1 : List (List Int × Int)) : f50i N f50c0 f50p0 (f50s0 a0 b1) (joinK (some f50lE) (finK tab f50sig Try.f50.results.toList)) = laws_eqTermS.Z0 N a0 b1 (fun t4 => some ((), (t4, ()))) :=
  (f50t0 N a0 b1 (finK tab f50sig Try.f50.results.toList)).trans (by kernel_rfl)
theorem f50ok (h : laws_eqTermS.Spec) : EntryOk Try.prog 50 e50 :=
  entry_of_code (sig := f50sig) (c := f50c0) (pl := f50p0) (je := (some f50lE)) (B := f50B) Try.func50 (by kernel_rfl) (by kernel_rfl) (by kernel_rfl) tabOk f50GOk (by kernel_rfl) (by kernel_rfl) (by kernel_rfl) (by kernel_rfl) fun X hb hp => by
    obtain ⟨a0, b1, _⟩ := X
    obtain ⟨N, h⟩ := h a0 b1 hb.1 hb.2.1
    exact ⟨N, (f50m N a0 b1).trans (h N (Nat.le_refl N))⟩
theorem e50ok : EntryOk Try.prog 50 e50 := f50ok laws_eqTermS.ok
end Go.Fw
set_option linter.unusedVariables false
set_option linter.unusedSimpArgs false
set_option maxRecDepth 100000
namespace Go.Fw
open Go.Proofs
/-! ### loop.example/g03115/laws.eqLaurent -/
noncomputable def f16sig : Sig := ⟨[⟨.pair (.int .i64) (.sl 59 (.pair (.sl 3 (.int .i64)) (.int .i64))), true, false⟩, ⟨.pair (.int .i64) (.sl 59 (.pair (.sl 3 (.int .i64)) (.int .i64))), true, false⟩], [⟨.bool, false, false⟩]⟩
noncomputable def e16 : Entry := ⟨f16sig, none, fun X => ((), ((laws_eqLaurent.g X.1 X.2.1), ()))⟩
noncomputable def f16G : Nat → Option Entry := addG (fun _ => none) 50 e50
theorem f16GOk : GOk Try.prog f16G := (GOk.nil).add e50ok (by kernel_rfl)
noncomputable def f16lE : Clean := ⟨[], [], [], [], []⟩
noncomputable def f16s0 (a0 : Int × List (List Int × Int)) (b1 : Int × List (List Int × Int)) : St := initSt f16sig.ps (a0, (b1, ()))
noncomputable def f16s1 (t4 : Bool) : St := stOf [(4, .c (.bool t4))] [] []
noncomputable def f16l1 : Clean := ⟨[4], [], [], [], []⟩
noncomputable def f16B : Nat → Option Clean := lookL [(1000000, f16l1)]
noncomputable abbrev f16i {ρ : Type} (N : Nat) (c : Code) (p : Plan) (σ : St) (K : KT ρ) : Option ρ := iCode f16G tab f16B N c p σ K
noncomputable def f16c0 := codeAt (bodyOf Try.f16) []
theorem f16t0 {ρ : Type} (N : Nat) (a0 : Int × List (List Int × Int)) (b1 : Int × List (List Int × Int)) (K : KT ρ) : f16i N f16c0 .n (f16s0 a0 b1) (joinK (some f16lE) K) =
  laws_eqLaurent.Z0 N a0 b1 (fun t4 => K .ret (f16s1 t4)) := by kernel_rfl
theorem f16m (N : Nat) (a0 : Int × List (List Int × Int)) (b1 : Int × List (List Int × Int)) : f16i N f16c0 .n (f16s0 a0 b1) (joinK (some f16lE) (finK tab f16sig Try.f16.results.toList)) = laws_eqLaurent.Z0 N a0 b1 (fun t4 => some ((), (t4, ()))) :=
  (f16t0 N a0 b1 (finK tab f16sig Try.f16.results.toList)).trans (by kernel_rfl)
theorem f16ok (h : laws_eqLaurent.Spec) : EntryOk Try.prog 16 e16 :=
  entry_of_code (sig := f16sig) (c := f16c0) (pl := .n) (je := (some f16lE)) (B := f16B) Try.func16 (by kernel_rfl) (by kernel_rfl) (by kernel_rfl) tabOk f16GOk (by kernel_rfl) (by kernel_rfl) (by kernel_rfl) (by kernel_rfl) fun X hb hp => by
    obtain ⟨a0, b1, _⟩ := X
    obtain ⟨N, h⟩ := h a0 b1 hb.1 hb.2.1
    exact ⟨N, (f16m N a0 b1).trans (h N (Nat.le_refl N))⟩
theorem e16ok : EntryOk Try.prog 16 e16 := f16ok laws_eqLaurent.ok
end Go.Fw
set_option linter.unusedVariables false
set_option linter.unusedSimpArgs false
set_option maxRecDepth 100000
namespace Go.Fw
open Go.Proofs
/-! ### loop.example/g03115/laws.markIntS -/
noncomputable def f23sig : Sig := ⟨[⟨.sl 3 (.int .i64), false, true⟩, ⟨.int .i64, false, false⟩], [⟨.int .i64, false, false⟩]⟩
noncomputable def e23 : Entry := ⟨f23sig, none, fun X => ((laws_markIntS.g X.1 X.2.1).1, ((laws_markIntS.g X.1 X.2.1).2, ()))⟩
noncomputable def f23G : Nat → Option Entry := (fun _ => none)
theorem f23GOk : GOk Try.prog f23G := GOk.nil
noncomputable def f23lE : Clean := ⟨[], [], [], [], []⟩
noncomputable def f23s0 (a0 : List Int) (k1 : Int) : St := initSt f23sig.ps (a0, (k1, ()))
noncomputable def f23s1 (a0 : List Int) (k1 : Int) : St := stOf [(0, .c (.own 1000000)), (1, .c (.int .i64 k1)), (100000, .c (.own 1000000))] [] [(1000000, (⟨3, .int .i64, a0, true, false⟩ : Row))]
noncomputable def f23l1 : Clean := ⟨[0, 1, 100000], [], [], [], [(⟨false, 0, 0⟩, 1000000)]⟩
noncomputable def f23s2 (a0 : List Int) (k1 : Int) (i5 : Int) : St := stOf [(0, .c (.own 1000000)), (1, .c (.int .i64 k1)), (5, .c (.int .i64 i5)), (100000, .c (.own 1000000))] [] [(1000000, (⟨3, .int .i64, a0, true, false⟩ : Row))]
noncomputable def f23l2 : Clean := ⟨[0, 1, 5, 100000], [], [], [], [(⟨false, 0, 0⟩, 1000000)]⟩
noncomputable def f23s3 (io100000 : List Int) (k1 : Int) : St := stOf [(1, .c (.int .i64 k1)), (100000, .c (.own 7400000))] [] [(7400000, (⟨3, .int .i64, io100000, true, false⟩ : Row))]
noncomputable def f23l3 : Clean := ⟨[1, 100000], [], [], [], [(⟨false, 100000, 0⟩, 7400000)]⟩
noncomputable def f23s4 (io100000 : List Int) (t4 : Int) : St := stOf [(4, .c (.int .i64 t4)), (100000, .c (.own 7400000))] [] [(7400000, (⟨3, .int .i64, io100000, true, false⟩ : Row))]
noncomputable def f23l4 : Clean := ⟨[4, 100000], [], [], [], [(⟨false, 100000, 0⟩, 7400000)]⟩
noncomputable def f23B : Nat → Option Clean := lookL [(0, f23l3), (1000000, f23l4)]
noncomputable abbrev f23i {ρ : Type} (N : Nat) (c : Code) (p : Plan) (σ : St) (K : KT ρ) : Option ρ := iCode f23G tab f23B N c p σ K
noncomputable def f23c1 := codeAt (bodyOf Try.f23) [0]
theorem f23t1 {ρ : Type} (N : Nat) (a0 : List Int) (k1 : Int) (K : KT ρ) : f23i N f23c1 .n (f23s0 a0 k1) (joinK (some f23l1) K) =
  laws_markIntS.Z1 N a0 k1 (fun a0 k1 => K .nrm (f23s1 a0 k1)) := by kernel_rfl
noncomputable def f23c4 := codeAt (bodyOf Try.f23) [1,0,0]
theorem f23t4 {ρ : Type} (N : Nat) (a0 : List Int) (k1 : Int) (K : KT ρ) : f23i N f23c4 .n (f23s1 a0 k1) (joinK (some f23l2) K) =
  laws_markIntS.Z4 N a0 k1 (fun a0 k1 i5 => K .nrm (f23s2 a0 k1 i5)) := by kernel_rfl
noncomputable def f23c7 := codeAt (bodyOf Try.f23) [1,0,1,0,0]
theorem f23t7 {ρ : Type} (N : Nat) (a0 : List Int) (k1 : Int) (i5 : Int) (K : KT ρ) : f23i N f23c7 .n (f23s2 a0 k1 i5) (joinK (some f23l2) K) =
  laws_markIntS.Z7 N a0 k1 i5 (fun a0 k1 i5 => K .nrm (f23s2 a0 k1 i5)) (fun io100000 k1 => K (.exit 0) (f23s3 io100000 k1)) := by kernel_rfl
noncomputable def f23c6 := codeAt (bodyOf Try.f23) [1,0,1,0]
noncomputable def f23p6 : Plan := .mk none (some f23l2) .n .n
noncomputable abbrev f23w6 {ρ : Type} (N : Nat) (M : Nat) (σ : St) (K : KT ρ) : Option ρ := loopC (fun σ K => f23i N f23c7 .n σ K) f23l2 M σ K
theorem f23t6L {ρ : Type} (N : Nat) (K : KT ρ) : ∀ (M : Nat) (a0 : List Int) (k1 : Int) (i5 : Int), f23w6 N M (f23s2 a0 k1 i5) K =
  laws_markIntS.Z6L N (fun io100000 k1 => K (.exit 0) (f23s3 io100000 k1)) M a0 k1 i5
  | 0, _, _, _ => rfl
  | M + 1, a0, k1, i5 => viaRound (fun k => laws_markIntS.Z7 N a0 k1 i5 k (fun io100000 k1 => K (.exit 0) (f23s3 io100000 k1))) (f23t7 N a0 k1 i5 (seqK (fun σ => f23w6 N M σ K) K)) (funext fun a0 => funext fun k1 => funext fun i5 => f23t6L N K M a0 k1 i5) (by kernel_rfl) (by kernel_rfl)
theorem f23t6 {ρ : Type} (N : Nat) (a0 : List Int) (k1 : Int) (i5 : Int) (K : KT ρ) : f23i N f23c6 f23p6 (f23s2 a0 k1 i5) (joinK (some f23l3) K) =
  laws_markIntS.Z6 N a0 k1 i5 (fun io100000 k1 => K (.exit 0) (f23s3 io100000 k1)) :=
  viaLoop (by kernel_rfl) (by kernel_rfl) (σ' := f23s2 a0 k1 i5) (by kernel_rfl) (f23t6L N (joinK (some f23l3) K) N a0 k1 i5) (by kernel_rfl)
noncomputable def f23c5 := codeAt (bodyOf Try.f23) [1,0,1]
noncomputable def f23p5 : Plan := .mk (some f23l3) none f23p6 .n
theorem f23t5 {ρ : Type} (N : Nat) (a0 : List Int) (k1 : Int) (i5 : Int) (K : KT ρ) : f23i N f23c5 f23p5 (f23s2 a0 k1 i5) (joinK (some f23l3) K) =
  laws_markIntS.Z5 N a0 k1 i5 (fun io100000 k1 => K .nrm (f23s3 io100000 k1)) :=
  viaBlock (by kernel_rfl) (by kernel_rfl) (f23t6 N a0 k1 i5 (blockK 0 (joinK (some f23l3) K))) (by kernel_rfl)
noncomputable def f23c3 := codeAt (bodyOf Try.f23) [1,0]
noncomputable def f23p3 : Plan := .mk (some f23l2) none .n f23p5
theorem f23t3 {ρ : Type} (N : Nat) (a0 : List Int) (k1 : Int) (K : KT ρ) : f23i N f23c3 f23p3 (f23s1 a0 k1) (joinK (some f23l3) K) =
  laws_markIntS.Z3 N a0 k1 (fun io100000 k1 => K .nrm (f23s3 io100000 k1)) :=
  viaSeq (fun k => laws_markIntS.Z4 N a0 k1 k) (by kernel_rfl) (by kernel_rfl) (f23t4 N a0 k1 (seqK (fun σ => f23i N f23c5 f23p5 σ (joinK (some f23l3) K)) (joinK (some f23l3) K))) (funext fun a0 => funext fun k1 => funext fun i5 => f23t5 N a0 k1 i5 K) (by kernel_rfl) (by kernel_rfl)
noncomputable def f23c8 := codeAt (bodyOf Try.f23) [1,1]
theorem f23t8 {ρ : Type} (N : Nat) (io100000 : List Int) (k1 : Int) (K : KT ρ) : f23i N f23c8 .n (f23s3 io100000 k1) (joinK (some f23lE) K) =
  laws_markIntS.Z8 N io100000 k1 (fun io100000 t4 => K .ret (f23s4 io100000 t4)) := by kernel_rfl
noncomputable def f23c2 := codeAt (bodyOf Try.f23) [1]
noncomputable def f23p2 : Plan := .mk (some f23l3) none f23p3 .n
theorem f23t2 {ρ : Type} (N : Nat) (a0 : List Int) (k1 : Int) (K : KT ρ) : f23i N f23c2 f23p2 (f23s1 a0 k1) (joinK (some f23lE) K) =
  laws_markIntS.Z2 N a0 k1 (fun io100000 t4 => K .ret (f23s4 io100000 t4)) :=
  viaSeq (fun k => laws_markIntS.Z3 N a0 k1 k) (by kernel_rfl) (by kernel_rfl) (f23t3 N a0 k1 (seqK (fun σ => f23i N f23c8 .n σ (joinK (some f23lE) K)) (joinK (some f23lE) K))) (funext fun io100000 => funext fun k1 => f23t8 N io100000 k1 K) (by kernel_rfl) (by kernel_rfl)
noncomputable def f23c0 := codeAt (bodyOf Try.f23) []
noncomputable def f23p0 : Plan := .mk (some f23l1) none .n f23p2
theorem f23t0 {ρ : Type} (N : Nat) (a0 : List Int) (k1 : Int) (K : KT ρ) : f23i N f23c0 f23p0 (f23s0 a0 k1) (joinK (some f23lE) K) =
  laws_markIntS.Z0 N a0 k1 (fun io100000 t4 => K .ret (f23s4 io100000 t4)) :=
  viaSeq (fun k => laws_markIntS.Z1 N a0 k1 k) (by kernel_rfl) (by kernel_rfl) (f23t1 N a0 k1 (seqK (fun σ => f23i N f23c2 f23p2 σ (joinK (some f23lE) K)) (joinK (some f23lE) K))) (funext fun a0 => funext fun k1 => f23t2 N a0 k1 K) (by kernel_rfl) (by kernel_rfl)
theorem f23m (N : Nat) (a0 : List Int) (k1 : Int) : f23i N f23c0 f23p0 (f23s0 a0 k1) (joinK (some f23lE) (finK tab f23sig Try.f23.results.toList)) = laws_markIntS.Z0 N a0 k1 (fun io100000 t4 => some (io100000, (t4, ()))) :=
  (f23t0 N a0 k1 (finK tab f23sig Try.f23.results.toList)).trans (by kernel_rfl)
theorem f23ok (h : laws_markIntS.Spec) : EntryOk Try.prog 23 e23 :=
  entry_of_code (sig := f23sig) (c := f23c0) (pl := f23p0) (je := (some f23lE)) (B := f23B) Try.func23 (by kernel_rfl) (by kernel_rfl) (by kernel_rfl) tabOk f23GOk (by kernel_rfl) (by kernel_rfl) (by kernel_rfl) (by kernel_rfl) fun X hb hp => by
    obtain ⟨a0, k1, _⟩ := X
    obtain ⟨N, h⟩ := h a0 k1 hb.1
    exact ⟨N, (f23m N a0 k1).trans (h N (Nat.le_refl N))⟩
theorem e23ok : EntryOk Try.prog 23 e23 := f23ok laws_markIntS.ok
end Go.Fw
set_option linter.unusedVariables false
set_option linter.unusedSimpArgs false
set_option maxRecDepth 100000
namespace Go.Fw
open Go.Proofs
/-! ### loop.example/g03115/laws.markTermS -/
noncomputable def f51sig : Sig := ⟨[⟨.sl 59 (.pair (.sl 3 (.int .i64)) (.int .i64)), false, true⟩, ⟨.int .i64, false, false⟩], [⟨.int .i64, false, false⟩]⟩
noncomputable def e51 : Entry := ⟨f51sig, none, fun X => ((laws_markTermS.g X.1 X.2.1).1, ((laws_markTermS.g X.1 X.2.1).2, ()))⟩
noncomputable def f51G : Nat → Option Entry := addG (fun _ => none) 23 e23
theorem f51GOk : GOk Try.prog f51G := (GOk.nil).add e23ok (by kernel_rfl)
noncomputable def f51lE : Clean := ⟨[], [], [], [], []⟩
noncomputable def f51s0 (a0 : List (List Int × Int)) (k1 : Int) : St := initSt f51sig.ps (a0, (k1, ()))
noncomputable def f51s1 (a0 : List (List Int × Int)) (k1 : Int) : St := stOf [(0, .c (.own 1000000)), (1, .c (.int .i64 k1)), (100000, .c (.own 1000000))] [] [(1000000, (⟨59, .pair (.sl 3 (.int .i64)) (.int .i64), a0, true, false⟩ : Row))]
noncomputable def f51l1 : Clean := ⟨[0, 1, 100000], [], [], [], [(⟨false, 0, 0⟩, 1000000)]⟩
noncomputable def f51s2 (a0 : List (List Int × Int)) (k1 : Int) (i5 : Int) : St := stOf [(0, .c (.own 1000000)), (1, .c (.int .i64 k1)), (5, .c (.int .i64 i5)), (100000, .c (.own 1000000))] [] [(1000000, (⟨59, .pair (.sl 3 (.int .i64)) (.int .i64), a0, true, false⟩ : Row))]
noncomputable def f51l2 : Clean := ⟨[0, 1, 5, 100000], [], [], [], [(⟨false, 0, 0⟩, 1000000)]⟩
noncomputable def f51s3 (io100000 : List (List Int × Int)) (k1 : Int) : St := stOf [(1, .c (.int .i64 k1)), (100000, .c (.own 7400000))] [] [(7400000, (⟨59, .pair (.sl 3 (.int .i64)) (.int .i64), io100000, true, false⟩ : Row))]
noncomputable def f51l3 : Clean := ⟨[1, 100000], [], [], [], [(⟨false, 100000, 0⟩, 7400000)]⟩
noncomputable def f51s4 (io100000 : List (List Int × Int)) (t4 : Int) : St := stOf [(4, .c (.int .i64 t4)), (100000, .c (.own 7400000))] [] [(7400000, (⟨59, .pair (.sl 3 (.int .i64)) (.int .i64), io100000, true, false⟩ : Row))]
noncomputable def f51l4 : Clean := ⟨[4, 100000], [], [], [], [(⟨false, 100000, 0⟩, 7400000)]⟩
noncomputable def f51B : Nat → Option Clean := lookL [(0, f51l3), (1000000, f51l4)]
noncomputable abbrev f51i {ρ : Type} (N : Nat) (c : Code) (p : Plan) (σ : St) (K : KT ρ) : Option ρ := iCode f51G tab f51B N c p σ K
noncomputable def f51c1 := codeAt (bodyOf Try.f51) [0]
theorem f51t1 {ρ : Type} (N : Nat) (a0 : List (List Int × Int)) (k1 : Int) (K : KT ρ) : f51i N f51c1 .n (f51s0 a0 k1) (joinK (some f51l1) K) =
  laws_markTermS.Z1 N a0 k1 (fun a0 k1 => K .nrm (f51s1 a0 k1)) := by kernel_rfl
noncomputable def f51c4 := codeAt (bodyOf Try.f51) [1,0,0]
theorem f51t4 {ρ : Type} (N : Nat) (a0 : List (List Int × Int)) (k1 : Int) (K : KT ρ) : f51i N f51c4 .n (f51s1 a0 k1) (joinK (some f51l2) K) =
  laws_markTermS.Z4 N a0 k1 (fun a0 k1 i5 => K .nrm (f51s2 a0 k1 i5)) := by kernel_rfl
noncomputable def f51c7 := codeAt (bodyOf Try.f51) [1,0,1,0,0]
theorem f51t7 {ρ : Type} (N : Nat) (a0 : List (List Int × Int)) (k1 : Int) (i5 : Int) (K : KT ρ) : f51i N f51c7 .n (f51s2 a0 k1 i5) (joinK (some f51l2) K) =
  laws_markTermS.Z7 N a0 k1 i5 (fun a0 k1 i5 => K .nrm (f51s2 a0 k1 i5)) (fun io100000 k1 => K (.exit 0) (f51s3 io100000 k1)) := by kernel_rfl
noncomputable def f51c6 := codeAt (bodyOf Try.f51) [1,0,1,0]
noncomputable def f51p6 : Plan := .mk none (some f51l2) .n .n
noncomputable abbrev f51w6 {ρ : Type} (N : Nat) (M : Nat) (σ : St) (K : KT ρ) : Option ρ := loopC (fun σ K => f51i N f51c7 .n σ K) f51l2 M σ K
theorem f51t6L {ρ : Type} (N : Nat) (K : KT ρ) : ∀ (M : Nat) (a0 : List (List Int × Int)) (k1 : Int) (i5 : Int), f51w6 N M (f51s2 a0 k1 i5) K =
  laws_markTermS.Z6L N (fun io100000 k1 => K (.exit 0) (f51s3 io100000 k1)) M a0 k1 i5
  | 0, _, _, _ => rfl
  | M + 1, a0, k1, i5 => viaRound (fun k => laws_markTermS.Z7 N a0 k1 i5 k (fun io100000 k1 => K (.exit 0) (f51s3 io100000 k1))) (f51t7 N a0 k1 i5 (seqK (fun σ => f51w6 N M σ K) K)) (funext fun a0 => funext fun k1 => funext fun i5 => f51t6L N K M a0 k1 i5) (by kernel_rfl) (by kernel_rfl)
theorem f51t6 {ρ : Type} (N : Nat) (a0 : List (List Int × Int)) (k1 : Int) (i5 : Int) (K : KT ρ) : f51i N f51c6 f51p6 (f51s2 a0 k1 i5) (joinK (some f51l3) K) =
  laws_markTermS.Z6 N a0 k1 i5 (fun io100000 k1 => K (.exit 0) (f51s3 io100000 k1)) :=
  viaLoop (by kernel_rfl) (by kernel_rfl) (σ' := f51s2 a0 k1 i5) (by kernel_rfl) (f51t6L N (joinK (some f51l3) K) N a0 k1 i5) (by kernel_rfl)
noncomputable def f51c5 := codeAt (bodyOf Try.f51) [1,0,1]
noncomputable def f51p5 : Plan := .mk (some f51l3) none f51p6 .n
theorem f51t5 {ρ : Type} (N : Nat) (a0 : List (List Int × Int)) (k1 : Int) (i5 : Int) (K : KT ρ) : f51i N f51c5 f51p5 (f51s2 a0 k1 i5) (joinK (some f51l3) K) =
  laws_markTermS.Z5 N a0 k1 i5 (fun io100000 k1 => K .nrm (f51s3 io100000 k1)) :=
  viaBlock (by kernel_rfl) (by kernel_rfl) (f51t6 N a0 k1 i5 (blockK 0 (joinK (some f51l3) K))) (by kernel_rfl)
noncomputable def f51c3 := codeAt (bodyOf Try.f51) [1,0]
noncomputable def f51p3 : Plan := .mk (some f51l2) none .n f51p5
theorem f51t3 {ρ : Type} (N : Nat) (a0 : List (List Int × Int)) (k1 : Int) (K : KT ρ) : f51i N f51c3 f51p3 (f51s1 a0 k1) (joinK (some f51l3) K) =
  laws_markTermS.Z3 N a0 k1 (fun io100000 k1 => K .nrm (f51s3 io100000 k1)) :=
  viaSeq (fun k => laws_markTermS.Z4 N a0 k1 k) (by kernel_rfl) (by kernel_rfl) (f51t4 N a0 k1 (seqK (fun σ => f51i N f51c5 f51p5 σ (joinK (some f51l3) K)) (joinK (some f51l3) K))) (funext fun a0 => funext fun k1 => funext fun i5 => f51t5 N a0 k1 i5 K) (by kernel_rfl) (by kernel_rfl)
noncomputable def f51c8 := codeAt (bodyOf Try.f51) [1,1]
theorem f51t8 {ρ : Type} (N : Nat) (io100000 : List (List Int × Int)) (k1 : Int) (K : KT ρ) : f51i N f51c8 .n (f51s3 io100000 k1) (joinK (some f51lE) K) =
  laws_markTermS.Z8 N io100000 k1 (fun io100000 t4 => K .ret (f51s4 io100000 t4)) := by kernel_rfl
noncomputable def f51c2 := codeAt (bodyOf Try.f51) [1]
noncomputable def f51p2 : Plan := .mk (some f51l3) none f51p3 .n
theorem f51t2 {ρ : Type} (N : Nat) (a0 : List (List Int × Int)) (k1 : Int) (K : KT ρ) : f51i N f51c2 f51p2 (f51s1 a0 k1) (joinK (some f51lE) K) =
  laws_markTermS.Z2 N a0 k1 (fun io100000 t4 => K .ret (f51s4 io100000 t4)) :=
  viaSeq (fun k => laws_markTermS.Z3 N a0 k1 k) (by kernel_rfl) (by kernel_rfl) (f51t3 N a0 k1 (seqK (fun σ => f51i N f51c8 .n σ (joinK (some f51lE) K)) (joinK (some f51lE) K))) (funext fun io100000 => funext fun k1 => f51t8 N io100000 k1 K) (by kernel_rfl) (by kernel_rfl)
noncomputable def f51c0 := codeAt (bodyOf Try.f51) []
noncomputable def f51p0 : Plan := .mk (some f51l1) none .n f51p2
theorem f51t0 {ρ : Type} (N : Nat) (a0 : List (List Int × Int)) (k1 : Int) (K : KT ρ) : f51i N f51c0 f51p0 (f51s0 a0 k1) (joinK (some f51lE) K) =
  laws_markTermS.Z0 N a0 k1 (fun io100000 t4 => K .ret (f51s4 io100000 t4)) :=
  viaSeq (fun k => laws_markTermS.Z1 N a0 k1 k) (by kernel_rfl) (by kernel_rfl) (f51t1 N a0 k1 (seqK (fun σ => f51i N f51c2 f51p2 σ (joinK (some f51lE) K)) (joinK (some f51lE) K))) (funext fun a0 => funext fun k1 => f51t2 N a0 k1 K) (by kernel_rfl) (by kernel_rfl)
theorem f51m (N : Nat) (a0 : List (List Int × Int)) (k1 : Int) : f51i N f51c0 f51p0 (f51s0 a0 k1) (joinK (some f51lE) (finK tab f51sig Try.f51.results.toList)) = laws_markTermS.Z0 N a0 k1 (fun io100000 t4 => some (io100000, (t4, ()))) :=
  (f51t0 N a0 k1 (finK tab f51sig Try.f51.results.toList)).trans (by kernel_rfl)
theorem f51ok (h : laws_markTermS.Spec) : EntryOk Try.prog 51 e51 :=
  entry_of_code (sig := f51sig) (c := f51c0) (pl := f51p0) (je := (some f51lE)) (B := f51B) Try.func51 (by kernel_rfl) (by kernel_rfl) (by kernel_rfl) tabOk f51GOk (by kernel_rfl) (by kernel_rfl) (by kernel_rfl) (by kernel_rfl) fun X hb hp => by
    obtain ⟨a0, k1, _⟩ := X
    obtain ⟨N, h⟩ := h a0 k1 hb.1
    exact ⟨N, (f51m N a0 k1).trans (h N (Nat.le_refl N))⟩
theorem e51ok : EntryOk Try.prog 51 e51 := f51ok laws_markTermS.ok
end Go.Fw
set_option linter.unusedVariables false
set_option linter.unusedSimpArgs false
set_option maxRecDepth 100000
namespace Go.Fw
open Go.Proofs
/-! ### loop.example/g03115/laws.markLaurent -/
noncomputable def f17sig : Sig := ⟨[⟨.pair (.int .i64) (.sl 59 (.pair (.sl 3 (.int .i64)) (.int .i64))), true, true⟩, ⟨.int .i64, false, false⟩], [⟨.int .i64, false, false⟩]⟩
noncomputable def e17 : Entry := ⟨f17sig, none, fun X => ((laws_markLaurent.g X.1 X.2.1).1, ((laws_markLaurent.g X.1 X.2.1).2, ()))⟩
noncomputable def f17G : Nat → Option Entry := addG (fun _ => none) 51 e51
theorem f17GOk : GOk Try.prog f17G := (GOk.nil).add e51ok (by kernel_rfl)
noncomputable def f17lE : Clean := ⟨[], [], [], [], []⟩
noncomputable def f17s0 (a0 : Int × List (List Int × Int)) (k1 : Int) : St := initSt f17sig.ps (a0, (k1, ()))
noncomputable def f17s1 (io100000_1 : List (List Int × Int)) (t4 : Int) (io100000_0 : Int) : St := stOf [(4, .c (.int .i64 t4)), (100000, .agg [.int .i64 io100000_0, .own 7400001])] [] [(7400001, (⟨59, .pair (.sl 3 (.int .i64)) (.int .i64), io100000_1, true, false⟩ : Row))]
noncomputable def f17l1 : Clean := ⟨[4, 100000], [], [], [], [(⟨false, 100000, 1⟩, 7400001)]⟩
noncomputable def f17B : Nat → Option Clean := lookL [(1000000, f17l1)]
noncomputable abbrev f17i {ρ : Type} (N : Nat) (c : Code) (p : Plan) (σ : St) (K : KT ρ) : Option ρ := iCode f17G tab f17B N c p σ K
noncomputable def f17c0 := codeAt (bodyOf Try.f17) []
theorem f17t0 {ρ : Type} (N : Nat) (a0 : Int × List (List Int × Int)) (k1 : Int) (K : KT ρ) : f17i N f17c0 .n (f17s0 a0 k1) (joinK (some f17lE) K) =
  laws_markLaurent.Z0 N a0 k1 (fun io100000_1 t4 io100000_0 => K .ret (f17s1 io100000_1 t4 io100000_0)) := by kernel_rfl
theorem f17m (N : Nat) (a0 : Int × List (List Int × Int)) (k1 : Int) : f17i N f17c0 .n (f17s0 a0 k1) (joinK (some f17lE) (finK tab f17sig Try.f17.results.toList)) = laws_markLaurent.Z0 N a0 k1 (fun io100000_1 t4 io100000_0 => some ((io100000_0, io100000_1), (t4, ()))) :=
  (f17t0 N a0 k1 (finK tab f17sig Try.f17.results.toList)).trans (by kernel_rfl)
theorem f17ok (h : laws_markLaurent.Spec) : EntryOk Try.prog 17 e17 :=
  entry_of_code (sig := f17sig) (c := f17c0) (pl := .n) (je := (some f17lE)) (B := f17B) Try.func17 (by kernel_rfl) (by kernel_rfl) (by kernel_rfl) tabOk f17GOk (by kernel_rfl) (by kernel_rfl) (by kernel_rfl) (by kernel_rfl) fun X hb hp => by
    obtain ⟨a0, k1, _⟩ := X
    obtain ⟨N, h⟩ := h a0 k1 hb.1
    exact ⟨N, (f17m N a0 k1).trans (h N (Nat.le_refl N))⟩
theorem e17ok : EntryOk Try.prog 17 e17 := f17ok laws_markLaurent.ok
end Go.Fw
set_option linter.unusedVariables false
set_option linter.unusedSimpArgs false
set_option maxRecDepth 100000
namespace Go.Fw
open Go.Proofs
/-! ### loop.example/g03115/laws.heldIntS -/
noncomputable def f38sig : Sig := ⟨[⟨.sl 3 (.int .i64), false, false⟩, ⟨.int .i64, false, false⟩], [⟨.int .i64, false, false⟩]⟩
noncomputable def e38 : Entry := ⟨f38sig, none, fun X => ((), ((laws_heldIntS.g X.1 X.2.1), ()))⟩
noncomputable def f38G : Nat → Option Entry := (fun _ => none)
theorem f38GOk : GOk Try.prog f38G := GOk.nil
noncomputable def f38lE : Clean := ⟨[], [], [], [], []⟩
noncomputable def f38s0 (a0 : List Int) (k1 : Int) : St := initSt f38sig.ps (a0, (k1, ()))
noncomputable def f38s1 (a0 : List Int) (k1 : Int) : St := stOf [(0, .c (.sn 3 (.int .i64) a0 none)), (1, .c (.int .i64 k1))] [] []
noncomputable def f38l1 : Clean := ⟨[0, 1], [], [], [], []⟩
noncomputable def f38s2 (a0 : List Int) (k1 : Int) (i5 : Int) : St := stOf [(0, .c (.sn 3 (.int .i64) a0 none)), (1, .c (.int .i64 k1)), (5, .c (.int .i64 i5))] [] []
noncomputable def f38l2 : Clean := ⟨[0, 1, 5], [], [], [], []⟩
noncomputable def f38s3 (k1 : Int) : St := stOf [(1, .c (.int .i64 k1))] [] []
noncomputable def f38l3 : Clean := ⟨[1], [], [], [], []⟩
noncomputable def f38s4 (t4 : Int) : St := stOf [(4, .c (.int .i64 t4))] [] []
noncomputable def f38l4 : Clean := ⟨[4], [], [], [], []⟩
noncomputable def f38B : Nat → Option Clean := lookL [(0, f38l3), (1000000, f38l4)]
noncomputable abbrev f38i {ρ : Type} (N : Nat) (c : Code) (p : Plan) (σ : St) (K : KT ρ) : Option ρ := iCode f38G tab f38B N c p σ K
noncomputable def f38c1 := codeAt (bodyOf Try.f38) [0]
theorem f38t1 {ρ : Type} (N : Nat) (a0 : List Int) (k1 : Int) (K : KT ρ) : f38i N f38c1 .n (f38s0 a0 k1) (joinK (some f38l1) K) =
  laws_heldIntS.Z1 N a0 k1 (fun a0 k1 => K .nrm (f38s1 a0 k1)) := by kernel_rfl
noncomputable def f38c4 := codeAt (bodyOf Try.f38) [1,0,0]
theorem f38t4 {ρ : Type} (N : Nat) (a0 : List Int) (k1 : Int) (K : KT ρ) : f38i N f38c4 .n (f38s1 a0 k1) (joinK (some f38l2) K) =
  laws_heldIntS.Z4 N a0 k1 (fun a0 k1 i5 => K .nrm (f38s2 a0 k1 i5)) := by kernel_rfl
noncomputable def f38c7 := codeAt (bodyOf Try.f38) [1,0,1,0,0]
theorem f38t7 {ρ : Type} (N : Nat) (a0 : List Int) (k1 : Int) (i5 : Int) (K : KT ρ) : f38i N f38c7 .n (f38s2 a0 k1 i5) (joinK (some f38l2) K) =
  laws_heldIntS.Z7 N a0 k1 i5 (fun a0 k1 i5 => K .nrm (f38s2 a0 k1 i5)) (fun k1 => K (.exit 0) (f38s3 k1)) (fun t4 => K .ret (f38s4 t4)) := by kernel_rfl
noncomputable def f38c6 := codeAt (bodyOf Try.f38) [1,0,1,0]
noncomputable def f38p6 : Plan := .mk none (some f38l2) .n .n
noncomputable abbrev f38w6 {ρ : Type} (N : Nat) (M : Nat) (σ : St) (K : KT ρ) : Option ρ := loopC (fun σ K => f38i N f38c7 .n σ K) f38l2 M σ K
theorem f38t6L {ρ : Type} (N : Nat) (K : KT ρ) : ∀ (M : Nat) (a0 : List Int) (k1 : Int) (i5 : Int), f38w6 N M (f38s2 a0 k1 i5) K =
  laws_heldIntS.Z6L N (fun k1 => K (.exit 0) (f38s3 k1)) (fun t4 => K .ret (f38s4 t4)) M a0 k1 i5
  | 0, _, _, _ => rfl
  | M + 1, a0, k1, i5 => viaRound (fun k => laws_heldIntS.Z7 N a0 k1 i5 k (fun k1 => K (.exit 0) (f38s3 k1)) (fun t4 => K .ret (f38s4 t4))) (f38t7 N a0 k1 i5 (seqK (fun σ => f38w6 N M σ K) K)) (funext fun a0 => funext fun k1 => funext fun i5 => f38t6L N K M a0 k1 i5) (by kernel_rfl) (by kernel_rfl)
theorem f38t6 {ρ : Type} (N : Nat) (a0 : List Int) (k1 : Int) (i5 : Int) (K : KT ρ) : f38i N f38c6 f38p6 (f38s2 a0 k1 i5) (joinK (some f38l3) K) =
  laws_heldIntS.Z6 N a0 k1 i5 (fun k1 => K (.exit 0) (f38s3 k1)) (fun t4 => K .ret (f38s4 t4)) :=
  viaLoop (by kernel_rfl) (by kernel_rfl) (σ' := f38s2 a0 k1 i5) (by kernel_rfl) (f38t6L N (joinK (some f38l3) K) N a0 k1 i5) (by kernel_rfl)
noncomputable def f38c5 := codeAt (bodyOf Try.f38) [1,0,1]
noncomputable def f38p5 : Plan := .mk (some f38l3) none f38p6 .n
theorem f38t5 {ρ : Type} (N : Nat) (a0 : List Int) (k1 : Int) (i5 : Int) (K : KT ρ) : f38i N f38c5 f38p5 (f38s2 a0 k1 i5) (joinK (some f38l3) K) =
  laws_heldIntS.Z5 N a0 k1 i5 (fun k1 => K .nrm (f38s3 k1)) (fun t4 => K .ret (f38s4 t4)) :=
  viaBlock (by kernel_rfl) (by kernel_rfl) (f38t6 N a0 k1 i5 (blockK 0 (joinK (some f38l3) K))) (by kernel_rfl)
noncomputable def f38c3 := codeAt (bodyOf Try.f38) [1,0]
noncomputable def f38p3 : Plan := .mk (some f38l2) none .n f38p5
theorem f38t3 {ρ : Type} (N : Nat) (a0 : List Int) (k1 : Int) (K : KT ρ) : f38i N f38c3 f38p3 (f38s1 a0 k1) (joinK (some f38l3) K) =
  laws_heldIntS.Z3 N a0 k1 (fun k1 => K .nrm (f38s3 k1)) (fun t4 => K .ret (f38s4 t4)) :=
  viaSeq (fun k => laws_heldIntS.Z4 N a0 k1 k) (by kernel_rfl) (by kernel_rfl) (f38t4 N a0 k1 (seqK (fun σ => f38i N f38c5 f38p5 σ (joinK (some f38l3) K)) (joinK (some f38l3) K))) (funext fun a0 => funext fun k1 => funext fun i5 => f38t5 N a0 k1 i5 K) (by kernel_rfl) (by kernel_rfl)
noncomputable def f38c8 := codeAt (bodyOf Try.f38) [1,1]
theorem f38t8 {ρ : Type} (N : Nat) (k1 : Int) (K : KT ρ) : f38i N f38c8 .n (f38s3 k1) (joinK (some f38lE) K) =
  laws_heldIntS.Z8 N k1 (fun t4 => K .ret (f38s4 t4)) := by kernel_rfl
noncomputable def f38c2 := codeAt (bodyOf Try.f38) [1]
noncomputable def f38p2 : Plan := .mk (some f38l3) none f38p3 .n
theorem f38t2 {ρ : Type} (N : Nat) (a0 : List Int) (k1 : Int) (K : KT ρ) : f38i N f38c2 f38p2 (f38s1 a0 k1) (joinK (some f38lE) K) =
  laws_heldIntS.Z2 N a0 k1 (fun t4 => K .ret (f38s4 t4)) :=
  viaSeq (fun k => laws_heldIntS.Z3 N a0 k1 k (fun t4 => K .ret (f38s4 t4))) (by kernel_rfl) (by kernel_rfl) (f38t3 N a0 k1 (seqK (fun σ => f38i N f38c8 .n σ (joinK (some f38lE) K)) (joinK (some f38lE) K))) (funext fun k1 => f38t8 N k1 K) (by kernel_rfl) (by kernel_rfl)
noncomputable def f38c0 := codeAt (bodyOf Try.f38) []
noncomputable def f38p0 : Plan := .mk (some f38l1) none .n f38p2
theorem f38t0 {ρ : Type} (N : Nat) (a0 : List Int) (k1 : Int) (K : KT ρ) : f38i N f38c0 f38p0 (f38s0 a0 k1) (joinK (some f38lE) K) =
  laws_heldIntS.Z0 N a0 k1 (fun t4 => K .ret (f38s4 t4)) :=
  viaSeq (fun k => laws_heldIntS.Z1 N a0 k1 k) (by kernel_rfl) (by kernel_rfl) (f38t1 N a0 k1 (seqK (fun σ => f38i N f38c2 f38p2 σ (joinK (some f38lE) K)) (joinK (some f38lE) K))) (funext fun a0 => funext fun k1 => f38t2 N a0 k1 K) (by kernel_rfl) (by kernel_rfl)
theorem f38m (N : Nat) (a0 : List Int) (k1 : Int) : f38i N f38c0 f38p0 (f38s0 a0 k1) (joinK (some f38lE) (finK tab f38sig Try.f38.results.toList)) = laws_heldIntS.Z0 N a0 k1 (fun t4 => some ((), (t4, ()))) :=
  (f38t0 N a0 k1 (finK tab f38sig Try.f38.results.toList)).trans (by kernel_rfl)
theorem f38ok (h : laws_heldIntS.Spec) : EntryOk Try.prog 38 e38 :=
  entry_of_code (sig := f38sig) (c := f38c0) (pl := f38p0) (je := (some f38lE)) (B := f38B) Try.func38 (by kernel_rfl) (by kernel_rfl) (by kernel_rfl) tabOk f38GOk (by kernel_rfl) (by kernel_rfl) (by kernel_rfl) (by kernel_rfl) fun X hb hp => by
    obtain ⟨a0, k1, _⟩ := X
    obtain ⟨N, h⟩ := h a0 k1 hb.1
    exact ⟨N, (f38m N a0 k1).trans (h N (Nat.le_refl N))⟩
theorem e38ok : EntryOk Try.prog 38 e38 := f38ok laws_heldIntS.ok
end Go.Fw
set_option linter.unusedVariables false
set_option linter.unusedSimpArgs false
set_option maxRecDepth 100000
namespace Go.Fw
open Go.Proofs
/-! ### loop.example/g03115/laws.heldTermS -/
noncomputable def f52sig : Sig := ⟨[⟨.sl 59 (.pair (.sl 3 (.int .i64)) (.int .i64)), false, false⟩, ⟨.int .i64, false, false⟩], [⟨.int .i64, false, false⟩]⟩
noncomputable def e52 : Entry := ⟨f52sig, none, fun X => ((), ((laws_heldTermS.g X.1 X.2.1), ()))⟩
noncomputable def f52G : Nat → Option Entry := addG (fun _ => none) 38 e38
theorem f52GOk : GOk Try.prog f52G := (GOk.nil).add e38ok (by kernel_rfl)
noncomputable def f52lE : Clean := ⟨[], [], [], [], []⟩
noncomputable def f52s0 (a0 : List (List Int × Int)) (k1 : Int) : St := initSt f52sig.ps (a0, (k1, ()))
noncomputable def f52s1 (a0 : List (List Int × Int)) (k1 : Int) : St := stOf [(0, .c (.sn 59 (.pair (.sl 3 (.int .i64)) (.int .i64)) a0 none)), (1, .c (.int .i64 k1))] [] []
noncomputable def f52l1 : Clean := ⟨[0, 1], [], [], [], []⟩
noncomputable def f52s2 (a0 : List (List Int × Int)) (k1 : Int) (i5 : Int) : St := stOf [(0, .c (.sn 59 (.pair (.sl 3 (.int .i64)) (.int .i64)) a0 none)), (1, .c (.int .i64 k1)), (5, .c (.int .i64 i5))] [] []
noncomputable def f52l2 : Clean := ⟨[0, 1, 5], [], [], [], []⟩
noncomputable def f52s3 (k1 : Int) : St := stOf [(1, .c (.int .i64 k1))] [] []
noncomputable def f52l3 : Clean := ⟨[1], [], [], [], []⟩
noncomputable def f52s4 (t4 : Int) : St := stOf [(4, .c (.int .i64 t4))] [] []
noncomputable def f52l4 : Clean := ⟨[4], [], [], [], []⟩
noncomputable def f52B : Nat → Option Clean := lookL [(0, f52l3), (1000000, f52l4)]
noncomputable abbrev f52i {ρ : Type} (N : Nat) (c : Code) (p : Plan) (σ : St) (K : KT ρ) : Option ρ := iCode f52G tab f52B N c p σ K
noncomputable def f52c1 := codeAt (bodyOf Try.f52) [0]
theorem f52t1 {ρ : Type} (N : Nat) (a0 : List (List Int × Int)) (k1 : Int) (K : KT ρ) : f52i N f52c1 .n (f52s0 a0 k1) (joinK (some f52l1) K) =
  laws_heldTermS.Z1 N a0 k1 (fun a0 k1 => K .nrm (f52s1 a0 k1)) := by kernel_rfl
noncomputable def f52c4 := codeAt (bodyOf Try.f52) [1,0,0]
theorem f52t4 {ρ : Type} (N : Nat) (a0 : List (List Int × Int)) (k1 : Int) (K : KT ρ) : f52i N f52c4 .n (f52s1 a0 k1) (joinK (some f52l2) K) =
  laws_heldTermS.Z4 N a0 k1 (fun a0 k1 i5 => K .nrm (f52s2 a0 k1 i5)) := by kernel_rfl
noncomputable def f52c7 := codeAt (bodyOf Try.f52) [1,0,1,0,0]
theorem f52t7 {ρ : Type} (N : Nat) (a0 : List (List Int × Int)) (k1 : Int) (i5 : Int) (K : KT ρ) : f52i N f52c7 .n (f52s2 a0 k1 i5) (joinK (some f52l2) K) =
  laws_heldTermS.Z7 N a0 k1 i5 (fun a0 k1 i5 => K .nrm (f52s2 a0 k1 i5)) (fun k1 => K (.exit 0) (f52s3 k1)) (fun t4 => K .ret (f52s4 t4)) := by kernel_rfl
noncomputable def f52c6 := codeAt (bodyOf Try.f52) [1,0,1,0]
noncomputable def f52p6 : Plan := .mk none (some f52l2) .n .n
noncomputable abbrev f52w6 {ρ : Type} (N : Nat) (M : Nat) (σ : St) (K : KT ρ) : Option ρ := loopC (fun σ K => f52i N f52c7 .n σ K) f52l2 M σ K
theorem f52t6L {ρ : Type} (N : Nat) (K : KT ρ) : ∀ (M : Nat) (a0 : List (List Int × Int)) (k1 : Int) (i5 : Int), f52w6 N M (f52s2 a0 k1 i5) K =
  laws_heldTermS.Z6L N (fun k1 => K (.exit 0) (f52s3 k1)) (fun t4 => K .ret (f52s4 t4)) M a0 k1 i5
  | 0, _, _, _ => rfl
  | M + 1, a0, k1, i5 => viaRound (fun k => laws_heldTermS.Z7 N a0 k1 i5 k (fun k1 => K (.exit 0) (f52s3 k1)) (fun t4 => K .ret (f52s4 t4))) (f52t7 N a0 k1 i5 (seqK (fun σ => f52w6 N M σ K) K)) (funext fun a0 => funext fun k1 => funext fun i5 => f52t6L N K M a0 k1 i5) (by kernel_rfl) (by kernel_rfl)
theorem f52t6 {ρ : Type} (N : Nat) (a0 : List (List Int × Int)) (k1 : Int) (i5 : Int) (K : KT ρ) : f52i N f52c6 f52p6 (f52s2 a0 k1 i5) (joinK (some f52l3) K) =
  laws_heldTermS.Z6 N a0 k1 i5 (fun k1 => K (.exit 0) (f52s3 k1)) (fun t4 => K .ret (f52s4 t4)) :=
  viaLoop (by kernel_rfl) (by kernel_rfl) (σ' := f52s2 a0 k1 i5) (by kernel_rfl) (f52t6L N (joinK (some f52l3) K) N a0 k1 i5) (by kernel_rfl)
noncomputable def f52c5 := codeAt (bodyOf Try.f52) [1,0,1]
noncomputable def f52p5 : Plan := .mk (some f52l3) none f52p6 .n
theorem f52t5 {ρ : Type} (N : Nat) (a0 : List (List Int × Int)) (k1 : Int) (i5 : Int) (K : KT ρ) : f52i N f52c5 f52p5 (f52s2 a0 k1 i5) (joinK (some f52l3) K) =
  laws_heldTermS.Z5 N a0 k1 i5 (fun k1 => K .nrm (f52s3 k1)) (fun t4 => K .ret (f52s4 t4)) :=
  viaBlock (by kernel_rfl) (by kernel_rfl) (f52t6 N a0 k1 i5 (blockK 0 (joinK (some f52l3) K))) (by kernel_rfl)
noncomputable def f52c3 := codeAt (bodyOf Try.f52) [1,0]
noncomputable def f52p3 : Plan := .mk (some f52l2) none .n f52p5
theorem f52t3 {ρ : Type} (N : Nat) (a0 : List (List Int × Int)) (k1 : Int) (K : KT ρ) : f52i N f52c3 f52p3 (f52s1 a0 k1) (joinK (some f52l3) K) =
  laws_heldTermS.Z3 N a0 k1 (fun k1 => K .nrm (f52s3 k1)) (fun t4 => K .ret (f52s4 t4)) :=
  viaSeq (fun k => laws_heldTermS.Z4 N a0 k1 k) (by kernel_rfl) (by kernel_rfl) (f52t4 N a0 k1 (seqK (fun σ => f52i N f52c5 f52p5 σ (joinK (some f52l3) K)) (joinK (some f52l3) K))) (funext fun a0 => funext fun k1 => funext fun i5 => f52t5 N a0 k1 i5 K) (by kernel_rfl) (by kernel_rfl)
noncomputable def f52c8 := codeAt (bodyOf Try.f52) [1,1]
theorem f52t8 {ρ : Type} (N : Nat) (k1 : Int) (K : KT ρ) : f52i N f52c8 .n (f52s3 k1) (joinK (some f52lE) K) =
  laws_heldTermS.Z8 N k1 (fun t4 => K .ret (f52s4 t4)) := by kernel_rfl
noncomputable def f52c2 := codeAt (bodyOf Try.f52) [1]
noncomputable def f52p2 : Plan := .mk (some f52l3) none f52p3 .n
theorem f52t2 {ρ : Type} (N : Nat) (a0 : List (List Int × Int)) (k1 : Int) (K : KT ρ) : f52i N f52c2 f52p2 (f52s1 a0 k1) (joinK (some f52lE) K) =
  laws_heldTermS.Z2 N a0 k1 (fun t4 => K .ret (f52s4 t4)) :=
  viaSeq (fun k => laws_heldTermS.Z3 N a0 k1 k (fun t4 => K .ret (f52s4 t4))) (by kernel_rfl) (by kernel_rfl) (f52t3 N a0 k1 (seqK (fun σ => f52i N f52c8 .n σ (joinK (some f52lE) K)) (joinK (some f52lE) K))) (funext fun k1 => f52t8 N k1 K) (by kernel_rfl) (by kernel_rfl)
noncomputable def f52c0 := codeAt (bodyOf Try.f52) []
noncomputable def f52p0 : Plan := .mk (some f52l1) none .n f52p2
theorem f52t0 {ρ : Type} (N : Nat) (a0 : List (List Int × Int)) (k1 : Int) (K : KT ρ) : f52i N f52c0 f52p0 (f52s0 a0 k1) (joinK (some f52lE) K) =
  laws_heldTermS.Z0 N a0 k1 (fun t4 => K .ret (f52s4 t4)) :=
  viaSeq (fun k => laws_heldTermS.Z1 N a0 k1 k) (by kernel_rfl) (by kernel_rfl) (f52t1 N a0 k1 (seqK (fun σ => f52i N f52c2 f52p2 σ (joinK (some f52lE) K)) (joinK (some f52lE) K))) (funext fun a0 => funext fun k1 => f52t2 N a0 k1 K) (by kernel_rfl) (by kernel_rfl)
theorem f52m (N : Nat) (a0 : List (List Int × Int)) (k1 : Int) : f52i N f52c0 f52p0 (f52s0 a0 k1) (joinK (some f52lE) (finK tab f52sig Try.f52.results.toList)) = laws_heldTermS.Z0 N a0 k1 (fun t4 => some ((), (t4, ()))) :=
  (f52t0 N a0 k1 (finK tab f52sig Try.f52.results.toList)).trans (by kernel_rfl)
theorem f52ok (h : laws_heldTermS.Spec) : EntryOk Try.prog 52 e52 :=
  entry_of_code (sig := f52sig) (c := f52c0) (pl := f52p0) (je := (some f52lE)) (B := f52B) Try.func52 (by kernel_rfl) (by kernel_rfl) (by kernel_rfl) tabOk f52GOk (by kernel_rfl) (by kernel_rfl) (by kernel_rfl) (by kernel_rfl) fun X hb hp => by
    obtain ⟨a0, k1, _⟩ := X
    obtain ⟨N, h⟩ := h a0 k1 hb.1
    exact ⟨N, (f52m N a0 k1).trans (h N (Nat.le_refl N))⟩
theorem e52ok : EntryOk Try.prog 52 e52 := f52ok laws_heldTermS.ok
end Go.Fw
set_option linter.unusedVariables false
set_option linter.unusedSimpArgs false
set_option maxRecDepth 100000
namespace Go.Fw
open Go.Proofs
/-! ### loop.example/g03115/laws.heldLaurent -/
noncomputable def f18sig : Sig := ⟨[⟨.pair (.int .i64) (.sl 59 (.pair (.sl 3 (.int .i64)) (.int .i64))), true, false⟩, ⟨.int .i64, false, false⟩], [⟨.int .i64, false, false⟩]⟩
noncomputable def e18 : Entry := ⟨f18sig, none, fun X => ((), ((laws_heldLaurent.g X.1 X.2.1), ()))⟩
noncomputable def f18G : Nat → Option Entry := addG (fun _ => none) 52 e52
theorem f18GOk : GOk Try.prog f18G := (GOk.nil).add e52ok (by kernel_rfl)
noncomputable def f18lE : Clean := ⟨[], [], [], [], []⟩
noncomputable def f18s0 (a0 : Int × List (List Int × Int)) (k1 : Int) : St := initSt f18sig.ps (a0, (k1, ()))
noncomputable def f18s1 (t4 : Int) : St := stOf [(4, .c (.int .i64 t4))] [] []
noncomputable def f18l1 : Clean := ⟨[4], [], [], [], []⟩
noncomputable def f18B : Nat → Option Clean := lookL [(1000000, f18l1)]
noncomputable abbrev f18i {ρ : Type} (N : Nat) (c : Code) (p : Plan) (σ : St) (K : KT ρ) : Option ρ := iCode f18G tab f18B N c p σ K
noncomputable def f18c0 := codeAt (bodyOf Try.f18) []
theorem f18t0 {ρ : Type} (N : Nat) (a0 : Int × List (List Int × Int)) (k1 : Int) (K : KT ρ) : f18i N f18c0 .n (f18s0 a0 k1) (joinK (some f18lE) K) =
  laws_heldLaurent.Z0 N a0 k1 (fun t4 => K .ret (f18s1 t4)) := by kernel_rfl
theorem f18m (N : Nat) (a0 : Int × List (List Int × Int)) (k1 : Int) : f18i N f18c0 .n (f18s0 a0 k1) (joinK (some f18lE) (finK tab f18sig Try.f18.results.toList)) = laws_heldLaurent.Z0 N a0 k1 (fun t4 => some ((), (t4, ()))) :=
  (f18t0 N a0 k1 (finK tab f18sig Try.f18.results.toList)).trans (by kernel_rfl)
theorem f18ok (h : laws_heldLaurent.Spec) : EntryOk Try.prog 18 e18 :=
  entry_of_code (sig := f18sig) (c := f18c0) (pl := .n) (je := (some f18lE)) (B := f18B) Try.func18 (by kernel_rfl) (by kernel_rfl) (by kernel_rfl) tabOk f18GOk (by kernel_rfl) (by kernel_rfl) (by kernel_rfl) (by kernel_rfl) fun X hb hp => by
    obtain ⟨a0, k1, _⟩ := X
    obtain ⟨N, h⟩ := h a0 k1 hb.1
    exact ⟨N, (f18m N a0 k1).trans (h N (Nat.le_refl N))⟩
theorem e18ok : EntryOk Try.prog 18 e18 := f18ok laws_heldLaurent.ok
end Go.Fw
set_option linter.unusedVariables false
set_option linter.unusedSimpArgs false
set_option maxRecDepth 100000
namespace Go.Fw
open Go.Proofs
/-! ### loop.example/g03115/laws.FnExactConstantLaurent -/
noncomputable def f4sig : Sig := ⟨[⟨.int .i64, false, false⟩, ⟨.int .i64, false, false⟩], [⟨.bool, false, false⟩]⟩
noncomputable def e4 : Entry := ⟨f4sig, none, fun X => ((), ((laws_FnExactConstantLaurent.g X.1 X.2.1), ()))⟩
noncomputable def f4G : Nat → Option Entry := addG (addG (addG (addG (addG (fun _ => none) 14 e14) 15 e15) 16 e16) 17 e17) 18 e18
theorem f4GOk : GOk Try.prog f4G := (((((GOk.nil).add e14ok (by kernel_rfl)).add e15ok (by kernel_rfl)).add e16ok (by kernel_rfl)).add e17ok (by kernel_rfl)).add e18ok (by kernel_rfl)
noncomputable def f4lE : Clean := ⟨[], [], [], [], []⟩
noncomputable def f4s0 (aVars0 : Int) (aK1 : Int) : St := initSt f4sig.ps (aVars0, (aK1, ()))
noncomputable def f4s1 (t4 : Bool) : St := stOf [(4, .c (.bool t4))] [] []
noncomputable def f4l1 : Clean := ⟨[4], [], [], [], []⟩
noncomputable def f4B : Nat → Option Clean := lookL [(1000000, f4l1)]
noncomputable abbrev f4i {ρ : Type} (N : Nat) (c : Code) (p : Plan) (σ : St) (K : KT ρ) : Option ρ := iCode f4G tab f4B N c p σ K
noncomputable def f4c0 := codeAt (bodyOf Try.f4) []
theorem f4t0 {ρ : Type} (N : Nat) (aVars0 : Int) (aK1 : Int) (K : KT ρ) : f4i N f4c0 .n (f4s0 aVars0 aK1) (joinK (some f4lE) K) =
  laws_FnExactConstantLaurent.Z0 N aVars0 aK1 (fun t4 => K .ret (f4s1 t4)) := by kernel_rfl
theorem f4m (N : Nat) (aVars0 : Int) (aK1 : Int) : f4i N f4c0 .n (f4s0 aVars0 aK1) (joinK (some f4lE) (finK tab f4sig Try.f4.results.toList)) = laws_FnExactConstantLaurent.Z0 N aVars0 aK1 (fun t4 => some ((), (t4, ()))) :=
  (f4t0 N aVars0 aK1 (finK tab f4sig Try.f4.results.toList)).trans (by kernel_rfl)
theorem f4ok (h : laws_FnExactConstantLaurent.Spec) : EntryOk Try.prog 4 e4 :=
  entry_of_code (sig := f4sig) (c := f4c0) (pl := .n) (je := (some f4lE)) (B := f4B) Try.func4 (by kernel_rfl) (by kernel_rfl) (by kernel_rfl) tabOk f4GOk (by kernel_rfl) (by kernel_rfl) (by kernel_rfl) (by kernel_rfl) fun X hb hp => by
    obtain ⟨aVars0, aK1, _⟩ := X
    obtain ⟨N, h⟩ := h aVars0 aK1
    exact ⟨N, (f4m N aVars0 aK1).trans (h N (Nat.le_refl N))⟩
theorem e4ok : EntryOk Try.prog 4 e4 := f4ok laws_FnExactConstantLaurent.ok
end Go.Fw
