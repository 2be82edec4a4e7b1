/- The ties: the program's text comes to the plain functions. Nothing is assumed. -/
import Derived.Test.YtakkbbpdfmkbnaaFwb
import Derived.Test.YtakkbbpdfmkbnaaProg
import Derived.Test.YtakkbbpdfmkbnaaPuFnExactCVectorsOfa
import Derived.Test.YtakkbbpdfmkbnaaPuFnExactCVectorsOfb
set_option linter.unusedVariables false
set_option linter.unusedSimpArgs false
set_option maxRecDepth 100000
namespace Go.Fw
open Go.Proofs
def tab : Tab := lookTab [
  (2, ⟨false, .int .i64, [.int .i64 0], [], none, 8⟩),
  (3, ⟨false, .int .i64, [.int .i64 0], [], none, 8⟩),
  (4, ⟨false, .bool, [.bool false], [], none, 1⟩),
  (5, ⟨false, .int .u8, [.int .u8 0], [], none, 1⟩),
  (6, ⟨false, .int .u8, [.int .u8 0], [], none, 1⟩),
  (7, ⟨true, .pair (.int .i64) (.pair (.int .i64) (.pair (.bool) (.int .u8))), [.int .i64 0, .int .i64 0, .bool false, .int .u8 0], [(0, 1, false), (1, 1, false), (2, 1, false), (3, 1, false)], none, 24⟩),
  (8, ⟨true, .pair (.int .i64) (.pair (.int .i64) (.pair (.bool) (.int .u8))), [.int .i64 0, .int .i64 0, .bool false, .int .u8 0], [(0, 1, false), (1, 1, false), (2, 1, false), (3, 1, false)], none, 24⟩),
  (9, ⟨false, .str, [.str ByteArray.empty], [], none, 16⟩),
  (10, ⟨false, .str, [.str ByteArray.empty], [], none, 16⟩),
  (11, ⟨false, .str, [.str ByteArray.empty], [], none, 16⟩),
  (12, ⟨false, .int .u64, [.int .u64 0], [], none, 8⟩),
  (13, ⟨true, .pair (.str) (.int .u64), [.str ByteArray.empty, .int .u64 0], [(0, 1, false), (1, 1, false)], none, 24⟩),
  (14, ⟨true, .pair (.str) (.int .u64), [.str ByteArray.empty, .int .u64 0], [(0, 1, false), (1, 1, false)], none, 24⟩),
  (21, ⟨false, .int .i32, [.int .i32 0], [], none, 4⟩),
  (22, ⟨false, .sl 5 (.int .u8), [.nil], [], some 5, 24⟩),
  (24, ⟨false, .sl 3 (.int .i64), [.nil], [], some 3, 24⟩),
  (25, ⟨true, .pair (.int .i64) (.pair (.int .i64) (.sl 3 (.int .i64))), [.int .i64 0, .int .i64 0, .nil], [(0, 1, false), (1, 1, false), (2, 1, false)], none, 40⟩),
  (26, ⟨true, .pair (.int .i64) (.pair (.int .i64) (.sl 3 (.int .i64))), [.int .i64 0, .int .i64 0, .nil], [(0, 1, false), (1, 1, false), (2, 1, false)], none, 40⟩),
  (29, ⟨false, .sl 24 (.sl 3 (.int .i64)), [.nil], [], some 24, 24⟩),
  (41, ⟨true, .pair (.int .i64) (.pair (.int .i64) (.sl 3 (.int .i64))), [.int .i64 0, .int .i64 0, .nil], [(0, 1, false), (1, 1, false), (2, 1, false)], none, 40⟩),
  (57, ⟨false, .sl 89 (.pair (.int .i64) (.sl 103 (.pair (.sl 3 (.int .i64)) (.int .i64)))), [.nil], [], some 89, 24⟩),
  (58, ⟨true, .pair (.pair (.int .i64) (.pair (.int .i64) (.sl 3 (.int .i64)))) (.sl 89 (.pair (.int .i64) (.sl 103 (.pair (.sl 3 (.int .i64)) (.int .i64))))), [.int .i64 0, .int .i64 0, .nil, .nil], [(0, 3, true), (3, 1, false)], none, 64⟩),
  (59, ⟨true, .pair (.pair (.int .i64) (.pair (.int .i64) (.sl 3 (.int .i64)))) (.sl 89 (.pair (.int .i64) (.sl 103 (.pair (.sl 3 (.int .i64)) (.int .i64))))), [.int .i64 0, .int .i64 0, .nil, .nil], [(0, 3, true), (3, 1, false)], none, 64⟩),
  (69, ⟨false, .sl 26 (.pair (.int .i64) (.pair (.int .i64) (.sl 3 (.int .i64)))), [.nil], [], some 26, 24⟩),
  (77, ⟨true, .pair (.sl 24 (.sl 3 (.int .i64))) (.bool), [.nil, .bool false], [(0, 1, false), (1, 1, false)], none, 32⟩),
  (78, ⟨true, .pair (.sl 24 (.sl 3 (.int .i64))) (.bool), [.nil, .bool false], [(0, 1, false), (1, 1, false)], none, 32⟩),
  (87, ⟨false, .sl 103 (.pair (.sl 3 (.int .i64)) (.int .i64)), [.nil], [], some 103, 24⟩),
  (88, ⟨true, .pair (.int .i64) (.sl 103 (.pair (.sl 3 (.int .i64)) (.int .i64))), [.int .i64 0, .nil], [(0, 1, false), (1, 1, false)], none, 32⟩),
  (89, ⟨true, .pair (.int .i64) (.sl 103 (.pair (.sl 3 (.int .i64)) (.int .i64))), [.int .i64 0, .nil], [(0, 1, false), (1, 1, false)], none, 32⟩),
  (93, ⟨true, .pair (.sl 5 (.int .u8)) (.pair (.int .i64) (.int .i64)), [.nil, .int .i64 0, .int .i64 0], [(0, 1, false), (1, 1, false), (2, 1, false)], none, 40⟩),
  (94, ⟨true, .pair (.sl 5 (.int .u8)) (.pair (.int .i64) (.int .i64)), [.nil, .int .i64 0, .int .i64 0], [(0, 1, false), (1, 1, false), (2, 1, false)], none, 40⟩),
  (102, ⟨true, .pair (.sl 3 (.int .i64)) (.int .i64), [.nil, .int .i64 0], [(0, 1, false), (1, 1, false)], none, 32⟩),
  (103, ⟨true, .pair (.sl 3 (.int .i64)) (.int .i64), [.nil, .int .i64 0], [(0, 1, false), (1, 1, false)], none, 32⟩),
  (109, ⟨false, .sl 9 (.str), [.nil], [], some 9, 24⟩),
  (118, ⟨false, .int .u64, [.int .u64 0], [], none, 8⟩),
  (127, ⟨false, .int .u32, [.int .u32 0], [], none, 4⟩),
  (128, ⟨false, .int .u8, [.int .u8 0], [], none, 1⟩),
  (129, ⟨false, .int .u8, [.int .u8 0], [], none, 1⟩),
  (132, ⟨false, .int .i32, [.int .i32 0], [], none, 4⟩),
  (133, ⟨false, .int .i32, [.int .i32 0], [], none, 4⟩)]
theorem tabOk : TOk Try.prog tab := TOk.of (by kernel_rfl)
end Go.Fw
set_option linter.unusedVariables false
set_option linter.unusedSimpArgs false
set_option maxRecDepth 100000
namespace Go.Fw
open Go.Proofs
/-! ### loop.example/g03115/laws.szIntS -/
noncomputable def f71sig : Sig := ⟨[⟨.sl 3 (.int .i64), false, false⟩, ⟨.int .i64, false, false⟩], [⟨.int .i64, false, false⟩]⟩
noncomputable def e71 : Entry := ⟨f71sig, none, fun X => ((), ((laws_szIntS.g X.1 X.2.1), ()))⟩
noncomputable def f71G : Nat → Option Entry := (fun _ => none)
theorem f71GOk : GOk Try.prog f71G := GOk.nil
noncomputable def f71lE : Clean := ⟨[], [], [], [], []⟩
noncomputable def f71s0 (v0 : List Int) (v1 : Int) : St := initSt f71sig.ps (v0, (v1, ()))
noncomputable def f71s1 (v4 : Int) : St := stOf [(4, .c (.int .i64 v4))] [] []
noncomputable def f71l1 : Clean := ⟨[4], [], [], [], []⟩
noncomputable def f71B : Nat → Option Clean := lookL [(1000000, f71l1)]
noncomputable abbrev f71i {ρ : Type} (N : Nat) (c : Code) (p : Plan) (σ : St) (K : KT ρ) : Option ρ := iCode f71G tab f71B N c p σ K
noncomputable def f71c0 := codeAt (bodyOf Try.f71) []
theorem f71t0 {ρ : Type} (N : Nat) (v0 : List Int) (v1 : Int) (K : KT ρ) : f71i N f71c0 .n (f71s0 v0 v1) (joinK (some f71lE) K) =
  laws_szIntS.Z0 N v0 v1 (fun v4 => K .ret (f71s1 v4)) := by kernel_rfl
theorem f71m (N : Nat) (v0 : List Int) (v1 : Int) : f71i N f71c0 .n (f71s0 v0 v1) (joinK (some f71lE) (finK tab f71sig Try.f71.results.toList)) = laws_szIntS.Z0 N v0 v1 (fun v4 => some ((), (v4, ()))) :=
  (f71t0 N v0 v1 (finK tab f71sig Try.f71.results.toList)).trans (by kernel_rfl)
theorem f71ok (h : laws_szIntS.Spec) : EntryOk Try.prog 71 e71 :=
  entry_of_code (sig := f71sig) (c := f71c0) (pl := .n) (je := (some f71lE)) (B := f71B) Try.func71 (by kernel_rfl) (by kernel_rfl) (by kernel_rfl) tabOk f71GOk (by kernel_rfl) (by kernel_rfl) (by kernel_rfl) (by kernel_rfl) fun X hb hp => by
    obtain ⟨v0, v1, _⟩ := X
    obtain ⟨N, h⟩ := h v0 v1 hb.1
    exact ⟨N, (f71m N v0 v1).trans (h N (Nat.le_refl N))⟩
theorem e71ok : EntryOk Try.prog 71 e71 := f71ok laws_szIntS.ok
end Go.Fw
set_option linter.unusedVariables false
set_option linter.unusedSimpArgs false
set_option maxRecDepth 100000
namespace Go.Fw
open Go.Proofs
/-! ### loop.example/g03115/laws.szMatrix -/
noncomputable def f27sig : Sig := ⟨[⟨.pair (.int .i64) (.pair (.int .i64) (.sl 3 (.int .i64))), true, false⟩, ⟨.int .i64, false, false⟩], [⟨.int .i64, false, false⟩]⟩
noncomputable def e27 : Entry := ⟨f27sig, none, fun X => ((), ((laws_szMatrix.g X.1 X.2.1), ()))⟩
noncomputable def f27G : Nat → Option Entry := addG (fun _ => none) 71 e71
theorem f27GOk : GOk Try.prog f27G := (GOk.nil).add e71ok (by kernel_rfl)
noncomputable def f27lE : Clean := ⟨[], [], [], [], []⟩
noncomputable def f27s0 (v0 : Int × Int × List Int) (v1 : Int) : St := initSt f27sig.ps (v0, (v1, ()))
noncomputable def f27s1 (v4 : Int) : St := stOf [(4, .c (.int .i64 v4))] [] []
noncomputable def f27l1 : Clean := ⟨[4], [], [], [], []⟩
noncomputable def f27B : Nat → Option Clean := lookL [(1000000, f27l1)]
noncomputable abbrev f27i {ρ : Type} (N : Nat) (c : Code) (p : Plan) (σ : St) (K : KT ρ) : Option ρ := iCode f27G tab f27B N c p σ K
noncomputable def f27c0 := codeAt (bodyOf Try.f27) []
theorem f27t0 {ρ : Type} (N : Nat) (v0 : Int × Int × List Int) (v1 : Int) (K : KT ρ) : f27i N f27c0 .n (f27s0 v0 v1) (joinK (some f27lE) K) =
  laws_szMatrix.Z0 N v0 v1 (fun v4 => K .ret (f27s1 v4)) := by kernel_rfl
theorem f27m (N : Nat) (v0 : Int × Int × List Int) (v1 : Int) : f27i N f27c0 .n (f27s0 v0 v1) (joinK (some f27lE) (finK tab f27sig Try.f27.results.toList)) = laws_szMatrix.Z0 N v0 v1 (fun v4 => some ((), (v4, ()))) :=
  (f27t0 N v0 v1 (finK tab f27sig Try.f27.results.toList)).trans (by kernel_rfl)
theorem f27ok (h : laws_szMatrix.Spec) : EntryOk Try.prog 27 e27 :=
  entry_of_code (sig := f27sig) (c := f27c0) (pl := .n) (je := (some f27lE)) (B := f27B) Try.func27 (by kernel_rfl) (by kernel_rfl) (by kernel_rfl) tabOk f27GOk (by kernel_rfl) (by kernel_rfl) (by kernel_rfl) (by kernel_rfl) fun X hb hp => by
    obtain ⟨v0, v1, _⟩ := X
    obtain ⟨N, h⟩ := h v0 v1 hb.1
    exact ⟨N, (f27m N v0 v1).trans (h N (Nat.le_refl N))⟩
theorem e27ok : EntryOk Try.prog 27 e27 := f27ok laws_szMatrix.ok
end Go.Fw
set_option linter.unusedVariables false
set_option linter.unusedSimpArgs false
set_option maxRecDepth 100000
namespace Go.Fw
open Go.Proofs
/-! ### loop.example/g03115/laws.toIntS -/
noncomputable def f42sig : Sig := ⟨[⟨.sl 3 (.int .i64), false, false⟩], [⟨.sl 3 (.int .i64), false, false⟩]⟩
noncomputable def e42 : Entry := ⟨f42sig, (some fun X => laws_toIntS.P X.1), fun X => ((), ((laws_toIntS.g X.1), ()))⟩
noncomputable def f42G : Nat → Option Entry := (fun _ => none)
theorem f42GOk : GOk Try.prog f42G := GOk.nil
noncomputable def f42lE : Clean := ⟨[], [], [], [], []⟩
noncomputable def f42s0 (v0 : List Int) : St := initSt f42sig.ps (v0, ())
noncomputable def f42s1 (v0 : List Int) : St := stOf [(0, .c (.sn 3 (.int .i64) v0 none))] [] []
noncomputable def f42l1 : Clean := ⟨[0], [], [], [], []⟩
noncomputable def f42s2 (v3 v0 : List Int) : St := stOf [(0, .c (.sn 3 (.int .i64) v0 none)), (3, .c (.own 1000192))] [] [(1000192, (⟨3, .int .i64, v3, true, false⟩ : Row))]
noncomputable def f42l2 : Clean := ⟨[0, 3], [], [], [], [(⟨false, 3, 0⟩, 1000192)]⟩
noncomputable def f42s3 (v3 v0 : List Int) (v4 : Int) : St := stOf [(0, .c (.sn 3 (.int .i64) v0 none)), (3, .c (.own 1000192)), (4, .c (.int .i64 v4))] [] [(1000192, (⟨3, .int .i64, v3, true, false⟩ : Row))]
noncomputable def f42l3 : Clean := ⟨[0, 3, 4], [], [], [], [(⟨false, 3, 0⟩, 1000192)]⟩
noncomputable def f42s4 (v3 : List Int) : St := stOf [(3, .c (.own 1000192))] [] [(1000192, (⟨3, .int .i64, v3, true, false⟩ : Row))]
noncomputable def f42l4 : Clean := ⟨[3], [], [], [], [(⟨false, 3, 0⟩, 1000192)]⟩
noncomputable def f42s5 (v2 : List Int) : St := stOf [(2, .c (.own 1000128))] [] [(1000128, (⟨3, .int .i64, v2, true, false⟩ : Row))]
noncomputable def f42l5 : Clean := ⟨[2], [], [], [], [(⟨false, 2, 0⟩, 1000128)]⟩
noncomputable def f42B : Nat → Option Clean := lookL [(0, f42l4), (1000000, f42l5)]
noncomputable abbrev f42i {ρ : Type} (N : Nat) (c : Code) (p : Plan) (σ : St) (K : KT ρ) : Option ρ := iCode f42G tab f42B N c p σ K
noncomputable def f42c1 := codeAt (bodyOf Try.f42) [0]
theorem f42t1 {ρ : Type} (N : Nat) (v0 : List Int) (K : KT ρ) : f42i N f42c1 .n (f42s0 v0) (joinK (some f42l1) K) =
  laws_toIntS.Z1 N v0 (fun v0 => K .nrm (f42s1 v0)) := by kernel_rfl
noncomputable def f42c3 := codeAt (bodyOf Try.f42) [1,0]
theorem f42t3 {ρ : Type} (N : Nat) (v0 : List Int) (K : KT ρ) : f42i N f42c3 .n (f42s1 v0) (joinK (some f42l2) K) =
  laws_toIntS.Z3 N v0 (fun v3 v0 => K .nrm (f42s2 v3 v0)) := by kernel_rfl
noncomputable def f42c6 := codeAt (bodyOf Try.f42) [1,1,0,0]
theorem f42t6 {ρ : Type} (N : Nat) (v3 v0 : List Int) (K : KT ρ) : f42i N f42c6 .n (f42s2 v3 v0) (joinK (some f42l3) K) =
  laws_toIntS.Z6 N v3 v0 (fun v3 v0 v4 => K .nrm (f42s3 v3 v0 v4)) := by kernel_rfl
noncomputable def f42c9 := codeAt (bodyOf Try.f42) [1,1,0,1,0,0]
theorem f42t9 {ρ : Type} (N : Nat) (v3 v0 : List Int) (v4 : Int) (K : KT ρ) : f42i N f42c9 .n (f42s3 v3 v0 v4) (joinK (some f42l3) K) =
  laws_toIntS.Z9 N v3 v0 v4 (fun v3 v0 v4 => K .nrm (f42s3 v3 v0 v4)) (fun v3 => K (.exit 0) (f42s4 v3)) := by kernel_rfl
noncomputable def f42c8 := codeAt (bodyOf Try.f42) [1,1,0,1,0]
noncomputable def f42p8 : Plan := .mk none (some f42l3) .n .n
noncomputable abbrev f42w8 {ρ : Type} (N M : Nat) (σ : St) (K : KT ρ) : Option ρ := loopC (fun σ K => f42i N f42c9 .n σ K) f42l3 M σ K
theorem f42t8L {ρ : Type} (N : Nat) (K : KT ρ) : ∀ (M : Nat) (v3 v0 : List Int) (v4 : Int), f42w8 N M (f42s3 v3 v0 v4) K =
  laws_toIntS.Z8L N (fun v3 => K (.exit 0) (f42s4 v3)) M v3 v0 v4
  | 0, _, _, _ => rfl
  | M + 1, v3, v0, v4 => viaRound (fun k => laws_toIntS.Z9 N v3 v0 v4 k (fun v3 => K (.exit 0) (f42s4 v3))) (f42t9 N v3 v0 v4 (seqK (fun σ => f42w8 N M σ K) K)) (funext fun v3 => funext fun v0 => funext fun v4 => f42t8L N K M v3 v0 v4) (by kernel_rfl) (by kernel_rfl)
theorem f42t8 {ρ : Type} (N : Nat) (v3 v0 : List Int) (v4 : Int) (K : KT ρ) : f42i N f42c8 f42p8 (f42s3 v3 v0 v4) (joinK (some f42l4) K) =
  laws_toIntS.Z8 N v3 v0 v4 (fun v3 => K (.exit 0) (f42s4 v3)) :=
  viaLoop (by kernel_rfl) (by kernel_rfl) (σ' := f42s3 v3 v0 v4) (by kernel_rfl) (f42t8L N (joinK (some f42l4) K) N v3 v0 v4) (by kernel_rfl)
noncomputable def f42c7 := codeAt (bodyOf Try.f42) [1,1,0,1]
noncomputable def f42p7 : Plan := .mk (some f42l4) none f42p8 .n
theorem f42t7 {ρ : Type} (N : Nat) (v3 v0 : List Int) (v4 : Int) (K : KT ρ) : f42i N f42c7 f42p7 (f42s3 v3 v0 v4) (joinK (some f42l4) K) =
  laws_toIntS.Z7 N v3 v0 v4 (fun v3 => K .nrm (f42s4 v3)) :=
  viaBlock (by kernel_rfl) (by kernel_rfl) (f42t8 N v3 v0 v4 (blockK 0 (joinK (some f42l4) K))) (by kernel_rfl)
noncomputable def f42c5 := codeAt (bodyOf Try.f42) [1,1,0]
noncomputable def f42p5 : Plan := .mk (some f42l3) none .n f42p7
theorem f42t5 {ρ : Type} (N : Nat) (v3 v0 : List Int) (K : KT ρ) : f42i N f42c5 f42p5 (f42s2 v3 v0) (joinK (some f42l4) K) =
  laws_toIntS.Z5 N v3 v0 (fun v3 => K .nrm (f42s4 v3)) :=
  viaSeq (fun k => laws_toIntS.Z6 N v3 v0 k) (by kernel_rfl) (by kernel_rfl) (f42t6 N v3 v0 (seqK (fun σ => f42i N f42c7 f42p7 σ (joinK (some f42l4) K)) (joinK (some f42l4) K))) (funext fun v3 => funext fun v0 => funext fun v4 => f42t7 N v3 v0 v4 K) (by kernel_rfl) (by kernel_rfl)
noncomputable def f42c10 := codeAt (bodyOf Try.f42) [1,1,1]
theorem f42t10 {ρ : Type} (N : Nat) (v3 : List Int) (K : KT ρ) : f42i N f42c10 .n (f42s4 v3) (joinK (some f42lE) K) =
  laws_toIntS.Z10 N v3 (fun v2 => K .ret (f42s5 v2)) := by kernel_rfl
noncomputable def f42c4 := codeAt (bodyOf Try.f42) [1,1]
noncomputable def f42p4 : Plan := .mk (some f42l4) none f42p5 .n
theorem f42t4 {ρ : Type} (N : Nat) (v3 v0 : List Int) (K : KT ρ) : f42i N f42c4 f42p4 (f42s2 v3 v0) (joinK (some f42lE) K) =
  laws_toIntS.Z4 N v3 v0 (fun v2 => K .ret (f42s5 v2)) :=
  viaSeq (fun k => laws_toIntS.Z5 N v3 v0 k) (by kernel_rfl) (by kernel_rfl) (f42t5 N v3 v0 (seqK (fun σ => f42i N f42c10 .n σ (joinK (some f42lE) K)) (joinK (some f42lE) K))) (funext fun v3 => f42t10 N v3 K) (by kernel_rfl) (by kernel_rfl)
noncomputable def f42c2 := codeAt (bodyOf Try.f42) [1]
noncomputable def f42p2 : Plan := .mk (some f42l2) none .n f42p4
theorem f42t2 {ρ : Type} (N : Nat) (v0 : List Int) (K : KT ρ) : f42i N f42c2 f42p2 (f42s1 v0) (joinK (some f42lE) K) =
  laws_toIntS.Z2 N v0 (fun v2 => K .ret (f42s5 v2)) :=
  viaSeq (fun k => laws_toIntS.Z3 N v0 k) (by kernel_rfl) (by kernel_rfl) (f42t3 N v0 (seqK (fun σ => f42i N f42c4 f42p4 σ (joinK (some f42lE) K)) (joinK (some f42lE) K))) (funext fun v3 => funext fun v0 => f42t4 N v3 v0 K) (by kernel_rfl) (by kernel_rfl)
noncomputable def f42c0 := codeAt (bodyOf Try.f42) []
noncomputable def f42p0 : Plan := .mk (some f42l1) none .n f42p2
theorem f42t0 {ρ : Type} (N : Nat) (v0 : List Int) (K : KT ρ) : f42i N f42c0 f42p0 (f42s0 v0) (joinK (some f42lE) K) =
  laws_toIntS.Z0 N v0 (fun v2 => K .ret (f42s5 v2)) :=
  viaSeq (fun k => laws_toIntS.Z1 N v0 k) (by kernel_rfl) (by kernel_rfl) (f42t1 N v0 (seqK (fun σ => f42i N f42c2 f42p2 σ (joinK (some f42lE) K)) (joinK (some f42lE) K))) (funext fun v0 => f42t2 N v0 K) (by kernel_rfl) (by kernel_rfl)
theorem f42m (N : Nat) (v0 : List Int) : f42i N f42c0 f42p0 (f42s0 v0) (joinK (some f42lE) (finK tab f42sig Try.f42.results.toList)) = laws_toIntS.Z0 N v0 (fun v2 => some ((), (v2, ()))) :=
  (f42t0 N v0 (finK tab f42sig Try.f42.results.toList)).trans (by kernel_rfl)
theorem f42ok (h : laws_toIntS.Spec) : EntryOk Try.prog 42 e42 :=
  entry_of_code (sig := f42sig) (c := f42c0) (pl := f42p0) (je := (some f42lE)) (B := f42B) Try.func42 (by kernel_rfl) (by kernel_rfl) (by kernel_rfl) tabOk f42GOk (by kernel_rfl) (by kernel_rfl) (by kernel_rfl) (by kernel_rfl) fun X hb hp => by
    obtain ⟨v0, _⟩ := X
    obtain ⟨N, h⟩ := h v0 hb.1 hp
    exact ⟨N, (f42m N v0).trans (h N (Nat.le_refl N))⟩
theorem e42ok : EntryOk Try.prog 42 e42 := f42ok laws_toIntS.ok
end Go.Fw
set_option linter.unusedVariables false
set_option linter.unusedSimpArgs false
set_option maxRecDepth 100000
namespace Go.Fw
open Go.Proofs
/-! ### loop.example/g03115/laws.toMatrix -/
noncomputable def f29sig : Sig := ⟨[⟨.pair (.int .i64) (.pair (.int .i64) (.sl 3 (.int .i64))), true, false⟩], [⟨.pair (.int .i64) (.pair (.int .i64) (.sl 3 (.int .i64))), true, false⟩]⟩
noncomputable def e29 : Entry := ⟨f29sig, (some fun X => laws_toMatrix.P X.1), fun X => ((), ((laws_toMatrix.g X.1), ()))⟩
noncomputable def f29G : Nat → Option Entry := addG (fun _ => none) 42 e42
theorem f29GOk : GOk Try.prog f29G := (GOk.nil).add e42ok (by kernel_rfl)
noncomputable def f29lE : Clean := ⟨[], [], [], [], []⟩
noncomputable def f29s0 (v0 : Int × Int × List Int) : St := initSt f29sig.ps (v0, ())
noncomputable def f29s1 (v2_2 : List Int) (v2_0 v2_1 : Int) : St := stOf [(2, .c (.box 2 0))] [(2, (26, [.int .i64 v2_0, .int .i64 v2_1, .own 20000130]))] [(20000130, (⟨3, .int .i64, v2_2, true, false⟩ : Row))]
noncomputable def f29l1 : Clean := ⟨[2], [2], [], [], [(⟨true, 2, 2⟩, 20000130)]⟩
noncomputable def f29B : Nat → Option Clean := lookL [(1000000, f29l1)]
noncomputable abbrev f29i {ρ : Type} (N : Nat) (c : Code) (p : Plan) (σ : St) (K : KT ρ) : Option ρ := iCode f29G tab f29B N c p σ K
noncomputable def f29c0 := codeAt (bodyOf Try.f29) []
theorem f29t0 {ρ : Type} (N : Nat) (v0 : Int × Int × List Int) (K : KT ρ) : f29i N f29c0 .n (f29s0 v0) (joinK (some f29lE) K) =
  laws_toMatrix.Z0 N v0 (fun v2_2 v2_0 v2_1 => K .ret (f29s1 v2_2 v2_0 v2_1)) := by kernel_rfl
theorem f29m (N : Nat) (v0 : Int × Int × List Int) : f29i N f29c0 .n (f29s0 v0) (joinK (some f29lE) (finK tab f29sig Try.f29.results.toList)) = laws_toMatrix.Z0 N v0 (fun v2_2 v2_0 v2_1 => some ((), ((v2_0, (v2_1, v2_2)), ()))) :=
  (f29t0 N v0 (finK tab f29sig Try.f29.results.toList)).trans (by kernel_rfl)
theorem f29ok (h : laws_toMatrix.Spec) : EntryOk Try.prog 29 e29 :=
  entry_of_code (sig := f29sig) (c := f29c0) (pl := .n) (je := (some f29lE)) (B := f29B) Try.func29 (by kernel_rfl) (by kernel_rfl) (by kernel_rfl) tabOk f29GOk (by kernel_rfl) (by kernel_rfl) (by kernel_rfl) (by kernel_rfl) fun X hb hp => by
    obtain ⟨v0, _⟩ := X
    obtain ⟨N, h⟩ := h v0 hb.1 hp
    exact ⟨N, (f29m N v0).trans (h N (Nat.le_refl N))⟩
theorem e29ok : EntryOk Try.prog 29 e29 := f29ok laws_toMatrix.ok
end Go.Fw
set_option linter.unusedVariables false
set_option linter.unusedSimpArgs false
set_option maxRecDepth 100000
namespace Go.Fw
open Go.Proofs
/-! ### loop.example/g03115/spec.l1In -/
noncomputable def f76sig : Sig := ⟨[⟨.int .i64, false, false⟩, ⟨.int .i64, false, false⟩, ⟨.int .i64, false, false⟩], [⟨.bool, false, false⟩]⟩
noncomputable def e76 : Entry := ⟨f76sig, none, fun X => ((), ((spec_l1In.g X.1 X.2.1 X.2.2.1), ()))⟩
noncomputable def f76G : Nat → Option Entry := (fun _ => none)
theorem f76GOk : GOk Try.prog f76G := GOk.nil
noncomputable def f76lE : Clean := ⟨[], [], [], [], []⟩
noncomputable def f76s0 (v0 v1 v2 : Int) : St := initSt f76sig.ps (v0, (v1, (v2, ())))
noncomputable def f76s1 (v6 : Bool) : St := stOf [(6, .c (.bool v6))] [] []
noncomputable def f76l1 : Clean := ⟨[6], [], [], [], []⟩
noncomputable def f76B : Nat → Option Clean := lookL [(1000000, f76l1)]
noncomputable abbrev f76i {ρ : Type} (N : Nat) (c : Code) (p : Plan) (σ : St) (K : KT ρ) : Option ρ := iCode f76G tab f76B N c p σ K
noncomputable def f76c0 := codeAt (bodyOf Try.f76) []
theorem f76t0 {ρ : Type} (N : Nat) (v0 v1 v2 : Int) (K : KT ρ) : f76i N f76c0 .n (f76s0 v0 v1 v2) (joinK (some f76lE) K) =
  spec_l1In.Z0 N v0 v1 v2 (fun v6 => K .ret (f76s1 v6)) := by kernel_rfl
theorem f76m (N : Nat) (v0 v1 v2 : Int) : f76i N f76c0 .n (f76s0 v0 v1 v2) (joinK (some f76lE) (finK tab f76sig Try.f76.results.toList)) = spec_l1In.Z0 N v0 v1 v2 (fun v6 => some ((), (v6, ()))) :=
  (f76t0 N v0 v1 v2 (finK tab f76sig Try.f76.results.toList)).trans (by kernel_rfl)
theorem f76ok (h : spec_l1In.Spec) : EntryOk Try.prog 76 e76 :=
  entry_of_code (sig := f76sig) (c := f76c0) (pl := .n) (je := (some f76lE)) (B := f76B) Try.func76 (by kernel_rfl) (by kernel_rfl) (by kernel_rfl) tabOk f76GOk (by kernel_rfl) (by kernel_rfl) (by kernel_rfl) (by kernel_rfl) fun X hb hp => by
    obtain ⟨v0, v1, v2, _⟩ := X
    obtain ⟨N, h⟩ := h v0 v1 v2
    exact ⟨N, (f76m N v0 v1 v2).trans (h N (Nat.le_refl N))⟩
theorem e76ok : EntryOk Try.prog 76 e76 := f76ok spec_l1In.ok
end Go.Fw
set_option linter.unusedVariables false
set_option linter.unusedSimpArgs false
set_option maxRecDepth 100000
namespace Go.Fw
open Go.Proofs
/-! ### loop.example/g03115/spec.l1At -/
noncomputable def f75sig : Sig := ⟨[⟨.pair (.int .i64) (.pair (.int .i64) (.sl 3 (.int .i64))), true, false⟩, ⟨.int .i64, false, false⟩, ⟨.int .i64, false, false⟩], [⟨.int .i64, false, false⟩]⟩
noncomputable def e75 : Entry := ⟨f75sig, (some fun X => spec_l1At.P X.1 X.2.1 X.2.2.1), fun X => ((), ((spec_l1At.g X.1 X.2.1 X.2.2.1), ()))⟩
noncomputable def f75G : Nat → Option Entry := (fun _ => none)
theorem f75GOk : GOk Try.prog f75G := GOk.nil
noncomputable def f75lE : Clean := ⟨[], [], [], [], []⟩
noncomputable def f75s0 (v0 : Int × Int × List Int) (v1 v2 : Int) : St := initSt f75sig.ps (v0, (v1, (v2, ())))
noncomputable def f75s1 (v6 : Int) : St := stOf [(6, .c (.int .i64 v6))] [] []
noncomputable def f75l1 : Clean := ⟨[6], [], [], [], []⟩
noncomputable def f75B : Nat → Option Clean := lookL [(1000000, f75l1)]
noncomputable abbrev f75i {ρ : Type} (N : Nat) (c : Code) (p : Plan) (σ : St) (K : KT ρ) : Option ρ := iCode f75G tab f75B N c p σ K
noncomputable def f75c0 := codeAt (bodyOf Try.f75) []
theorem f75t0 {ρ : Type} (N : Nat) (v0 : Int × Int × List Int) (v1 v2 : Int) (K : KT ρ) : f75i N f75c0 .n (f75s0 v0 v1 v2) (joinK (some f75lE) K) =
  spec_l1At.Z0 N v0 v1 v2 (fun v6 => K .ret (f75s1 v6)) := by kernel_rfl
theorem f75m (N : Nat) (v0 : Int × Int × List Int) (v1 v2 : Int) : f75i N f75c0 .n (f75s0 v0 v1 v2) (joinK (some f75lE) (finK tab f75sig Try.f75.results.toList)) = spec_l1At.Z0 N v0 v1 v2 (fun v6 => some ((), (v6, ()))) :=
  (f75t0 N v0 v1 v2 (finK tab f75sig Try.f75.results.toList)).trans (by kernel_rfl)
theorem f75ok (h : spec_l1At.Spec) : EntryOk Try.prog 75 e75 :=
  entry_of_code (sig := f75sig) (c := f75c0) (pl := .n) (je := (some f75lE)) (B := f75B) Try.func75 (by kernel_rfl) (by kernel_rfl) (by kernel_rfl) tabOk f75GOk (by kernel_rfl) (by kernel_rfl) (by kernel_rfl) (by kernel_rfl) fun X hb hp => by
    obtain ⟨v0, v1, v2, _⟩ := X
    obtain ⟨N, h⟩ := h v0 v1 v2 hb.1 hp
    exact ⟨N, (f75m N v0 v1 v2).trans (h N (Nat.le_refl N))⟩
theorem e75ok : EntryOk Try.prog 75 e75 := f75ok spec_l1At.ok
end Go.Fw
set_option linter.unusedVariables false
set_option linter.unusedSimpArgs false
set_option maxRecDepth 100000
namespace Go.Fw
open Go.Proofs
/-! ### loop.example/g03115/spec.l1Sizes -/
noncomputable def f78sig : Sig := ⟨[⟨.pair (.int .i64) (.pair (.int .i64) (.sl 3 (.int .i64))), true, false⟩], [⟨.bool, false, false⟩]⟩
noncomputable def e78 : Entry := ⟨f78sig, none, fun X => ((), ((spec_l1Sizes.g X.1), ()))⟩
noncomputable def f78G : Nat → Option Entry := addG (addG (fun _ => none) 75 e75) 76 e76
theorem f78GOk : GOk Try.prog f78G := ((GOk.nil).add e75ok (by kernel_rfl)).add e76ok (by kernel_rfl)
noncomputable def f78lE : Clean := ⟨[], [], [], [], []⟩
noncomputable def f78s0 (v0 : Int × Int × List Int) : St := initSt f78sig.ps (v0, ())
noncomputable def f78s1 (v1_0 v1_1 : Int) (v1_2 : List Int) : St := stOf [(1, .c (.box 1 0))] [(1, (26, [.int .i64 v1_0, .int .i64 v1_1, .sn 3 (.int .i64) v1_2 none]))] []
noncomputable def f78l1 : Clean := ⟨[1], [1], [], [], []⟩
noncomputable def f78s2 (v3 v1_0 v1_1 : Int) (v1_2 : List Int) : St := stOf [(1, .c (.box 1 0)), (3, .c (.int .i64 v3))] [(1, (26, [.int .i64 v1_0, .int .i64 v1_1, .sn 3 (.int .i64) v1_2 none]))] []
noncomputable def f78l2 : Clean := ⟨[1, 3], [1], [], [], []⟩
noncomputable def f78s3 (v4 v1_0 v1_1 : Int) (v1_2 : List Int) : St := stOf [(1, .c (.box 1 0)), (4, .c (.int .i64 v4))] [(1, (26, [.int .i64 v1_0, .int .i64 v1_1, .sn 3 (.int .i64) v1_2 none]))] []
noncomputable def f78l3 : Clean := ⟨[1, 4], [1], [], [], []⟩
noncomputable def f78s4 (v4 v5 : Int) (v1_0 v1_1 : Int) (v1_2 : List Int) : St := stOf [(1, .c (.box 1 0)), (4, .c (.int .i64 v4)), (5, .c (.int .i64 v5))] [(1, (26, [.int .i64 v1_0, .int .i64 v1_1, .sn 3 (.int .i64) v1_2 none]))] []
noncomputable def f78l4 : Clean := ⟨[1, 4, 5], [1], [], [], []⟩
noncomputable def f78s5  : St := stOf [] [] []
noncomputable def f78l5 : Clean := ⟨[], [], [], [], []⟩
noncomputable def f78s6 (v2 : Bool) : St := stOf [(2, .c (.bool v2))] [] []
noncomputable def f78l6 : Clean := ⟨[2], [], [], [], []⟩
noncomputable def f78B : Nat → Option Clean := lookL [(0, f78l1), (4, f78l3), (3, f78l3), (2, f78l5), (1000000, f78l6)]
noncomputable abbrev f78i {ρ : Type} (N : Nat) (c : Code) (p : Plan) (σ : St) (K : KT ρ) : Option ρ := iCode f78G tab f78B N c p σ K
noncomputable def f78c1 := codeAt (bodyOf Try.f78) [0]
theorem f78t1 {ρ : Type} (N : Nat) (v0 : Int × Int × List Int) (K : KT ρ) : f78i N f78c1 .n (f78s0 v0) (joinK (some f78l1) K) =
  spec_l1Sizes.Z1 N v0 (fun v1_0 v1_1 v1_2 => K .nrm (f78s1 v1_0 v1_1 v1_2)) := by kernel_rfl
noncomputable def f78c3 := codeAt (bodyOf Try.f78) [1,0]
theorem f78t3 {ρ : Type} (N : Nat) (v1_0 v1_1 : Int) (v1_2 : List Int) (K : KT ρ) : f78i N f78c3 .n (f78s1 v1_0 v1_1 v1_2) (joinK (some f78l1) K) =
  spec_l1Sizes.Z3 N v1_0 v1_1 v1_2 (fun v1_0 v1_1 v1_2 => K .nrm (f78s1 v1_0 v1_1 v1_2)) (fun v2 => K .ret (f78s6 v2)) := by kernel_rfl
noncomputable def f78c6 := codeAt (bodyOf Try.f78) [1,1,0,0]
theorem f78t6 {ρ : Type} (N : Nat) (v1_0 v1_1 : Int) (v1_2 : List Int) (K : KT ρ) : f78i N f78c6 .n (f78s1 v1_0 v1_1 v1_2) (joinK (some f78l2) K) =
  spec_l1Sizes.Z6 N v1_0 v1_1 v1_2 (fun v3 v1_0 v1_1 v1_2 => K .nrm (f78s2 v3 v1_0 v1_1 v1_2)) := by kernel_rfl
noncomputable def f78c9 := codeAt (bodyOf Try.f78) [1,1,0,1,0,0]
theorem f78t9 {ρ : Type} (N : Nat) (v3 v1_0 v1_1 : Int) (v1_2 : List Int) (K : KT ρ) : f78i N f78c9 .n (f78s2 v3 v1_0 v1_1 v1_2) (joinK (some f78l2) K) =
  spec_l1Sizes.Z9 N v3 v1_0 v1_1 v1_2 (fun v3 v1_0 v1_1 v1_2 => K .nrm (f78s2 v3 v1_0 v1_1 v1_2)) (fun v1_0 v1_1 v1_2 => K (.exit 0) (f78s1 v1_0 v1_1 v1_2)) (fun v2 => K .ret (f78s6 v2)) := by kernel_rfl
noncomputable def f78c8 := codeAt (bodyOf Try.f78) [1,1,0,1,0]
noncomputable def f78p8 : Plan := .mk none (some f78l2) .n .n
noncomputable abbrev f78w8 {ρ : Type} (N M : Nat) (σ : St) (K : KT ρ) : Option ρ := loopC (fun σ K => f78i N f78c9 .n σ K) f78l2 M σ K
theorem f78t8L {ρ : Type} (N : Nat) (K : KT ρ) : ∀ (M : Nat) (v3 v1_0 v1_1 : Int) (v1_2 : List Int), f78w8 N M (f78s2 v3 v1_0 v1_1 v1_2) K =
  spec_l1Sizes.Z8L N (fun v1_0 v1_1 v1_2 => K (.exit 0) (f78s1 v1_0 v1_1 v1_2)) (fun v2 => K .ret (f78s6 v2)) M v3 v1_0 v1_1 v1_2
  | 0, _, _, _, _ => rfl
  | M + 1, v3, v1_0, v1_1, v1_2 => viaRound (fun k => spec_l1Sizes.Z9 N v3 v1_0 v1_1 v1_2 k (fun v1_0 v1_1 v1_2 => K (.exit 0) (f78s1 v1_0 v1_1 v1_2)) (fun v2 => K .ret (f78s6 v2))) (f78t9 N v3 v1_0 v1_1 v1_2 (seqK (fun σ => f78w8 N M σ K) K)) (funext fun v3 => funext fun v1_0 => funext fun v1_1 => funext fun v1_2 => f78t8L N K M v3 v1_0 v1_1 v1_2) (by kernel_rfl) (by kernel_rfl)
theorem f78t8 {ρ : Type} (N : Nat) (v3 v1_0 v1_1 : Int) (v1_2 : List Int) (K : KT ρ) : f78i N f78c8 f78p8 (f78s2 v3 v1_0 v1_1 v1_2) (joinK (some f78l1) K) =
  spec_l1Sizes.Z8 N v3 v1_0 v1_1 v1_2 (fun v1_0 v1_1 v1_2 => K (.exit 0) (f78s1 v1_0 v1_1 v1_2)) (fun v2 => K .ret (f78s6 v2)) :=
  viaLoop (by kernel_rfl) (by kernel_rfl) (σ' := f78s2 v3 v1_0 v1_1 v1_2) (by kernel_rfl) (f78t8L N (joinK (some f78l1) K) N v3 v1_0 v1_1 v1_2) (by kernel_rfl)
noncomputable def f78c7 := codeAt (bodyOf Try.f78) [1,1,0,1]
noncomputable def f78p7 : Plan := .mk (some f78l1) none f78p8 .n
theorem f78t7 {ρ : Type} (N : Nat) (v3 v1_0 v1_1 : Int) (v1_2 : List Int) (K : KT ρ) : f78i N f78c7 f78p7 (f78s2 v3 v1_0 v1_1 v1_2) (joinK (some f78l1) K) =
  spec_l1Sizes.Z7 N v3 v1_0 v1_1 v1_2 (fun v1_0 v1_1 v1_2 => K .nrm (f78s1 v1_0 v1_1 v1_2)) (fun v2 => K .ret (f78s6 v2)) :=
  viaBlock (by kernel_rfl) (by kernel_rfl) (f78t8 N v3 v1_0 v1_1 v1_2 (blockK 0 (joinK (some f78l1) K))) (by kernel_rfl)
noncomputable def f78c5 := codeAt (bodyOf Try.f78) [1,1,0]
noncomputable def f78p5 : Plan := .mk (some f78l2) none .n f78p7
theorem f78t5 {ρ : Type} (N : Nat) (v1_0 v1_1 : Int) (v1_2 : List Int) (K : KT ρ) : f78i N f78c5 f78p5 (f78s1 v1_0 v1_1 v1_2) (joinK (some f78l1) K) =
  spec_l1Sizes.Z5 N v1_0 v1_1 v1_2 (fun v1_0 v1_1 v1_2 => K .nrm (f78s1 v1_0 v1_1 v1_2)) (fun v2 => K .ret (f78s6 v2)) :=
  viaSeq (fun k => spec_l1Sizes.Z6 N v1_0 v1_1 v1_2 k) (by kernel_rfl) (by kernel_rfl) (f78t6 N v1_0 v1_1 v1_2 (seqK (fun σ => f78i N f78c7 f78p7 σ (joinK (some f78l1) K)) (joinK (some f78l1) K))) (funext fun v3 => funext fun v1_0 => funext fun v1_1 => funext fun v1_2 => f78t7 N v3 v1_0 v1_1 v1_2 K) (by kernel_rfl) (by kernel_rfl)
noncomputable def f78c12 := codeAt (bodyOf Try.f78) [1,1,1,0,0]
theorem f78t12 {ρ : Type} (N : Nat) (v1_0 v1_1 : Int) (v1_2 : List Int) (K : KT ρ) : f78i N f78c12 .n (f78s1 v1_0 v1_1 v1_2) (joinK (some f78l3) K) =
  spec_l1Sizes.Z12 N v1_0 v1_1 v1_2 (fun v4 v1_0 v1_1 v1_2 => K .nrm (f78s3 v4 v1_0 v1_1 v1_2)) := by kernel_rfl
noncomputable def f78c16 := codeAt (bodyOf Try.f78) [1,1,1,0,1,0,0,0]
theorem f78t16 {ρ : Type} (N : Nat) (v4 v1_0 v1_1 : Int) (v1_2 : List Int) (K : KT ρ) : f78i N f78c16 .n (f78s3 v4 v1_0 v1_1 v1_2) (joinK (some f78l3) K) =
  spec_l1Sizes.Z16 N v4 v1_0 v1_1 v1_2 (fun v4 v1_0 v1_1 v1_2 => K .nrm (f78s3 v4 v1_0 v1_1 v1_2)) (K (.exit 2) f78s5) := by kernel_rfl
noncomputable def f78c20 := codeAt (bodyOf Try.f78) [1,1,1,0,1,0,0,1,0,0,0]
theorem f78t20 {ρ : Type} (N : Nat) (v4 v1_0 v1_1 : Int) (v1_2 : List Int) (K : KT ρ) : f78i N f78c20 .n (f78s3 v4 v1_0 v1_1 v1_2) (joinK (some f78l4) K) =
  spec_l1Sizes.Z20 N v4 v1_0 v1_1 v1_2 (fun v4 v5 v1_0 v1_1 v1_2 => K .nrm (f78s4 v4 v5 v1_0 v1_1 v1_2)) := by kernel_rfl
noncomputable def f78c23 := codeAt (bodyOf Try.f78) [1,1,1,0,1,0,0,1,0,0,1,0,0]
theorem f78t23 {ρ : Type} (N : Nat) (v4 v5 : Int) (v1_0 v1_1 : Int) (v1_2 : List Int) (K : KT ρ) : f78i N f78c23 .n (f78s4 v4 v5 v1_0 v1_1 v1_2) (joinK (some f78l4) K) =
  spec_l1Sizes.Z23 N v4 v5 v1_0 v1_1 v1_2 (fun v4 v5 v1_0 v1_1 v1_2 => K .nrm (f78s4 v4 v5 v1_0 v1_1 v1_2)) (fun v4 v1_0 v1_1 v1_2 => K (.exit 4) (f78s3 v4 v1_0 v1_1 v1_2)) (fun v2 => K .ret (f78s6 v2)) := by kernel_rfl
noncomputable def f78c22 := codeAt (bodyOf Try.f78) [1,1,1,0,1,0,0,1,0,0,1,0]
noncomputable def f78p22 : Plan := .mk none (some f78l4) .n .n
noncomputable abbrev f78w22 {ρ : Type} (N M : Nat) (σ : St) (K : KT ρ) : Option ρ := loopC (fun σ K => f78i N f78c23 .n σ K) f78l4 M σ K
theorem f78t22L {ρ : Type} (N : Nat) (K : KT ρ) : ∀ (M : Nat) (v4 v5 : Int) (v1_0 v1_1 : Int) (v1_2 : List Int), f78w22 N M (f78s4 v4 v5 v1_0 v1_1 v1_2) K =
  spec_l1Sizes.Z22L N (fun v4 v1_0 v1_1 v1_2 => K (.exit 4) (f78s3 v4 v1_0 v1_1 v1_2)) (fun v2 => K .ret (f78s6 v2)) M v4 v5 v1_0 v1_1 v1_2
  | 0, _, _, _, _, _ => rfl
  | M + 1, v4, v5, v1_0, v1_1, v1_2 => viaRound (fun k => spec_l1Sizes.Z23 N v4 v5 v1_0 v1_1 v1_2 k (fun v4 v1_0 v1_1 v1_2 => K (.exit 4) (f78s3 v4 v1_0 v1_1 v1_2)) (fun v2 => K .ret (f78s6 v2))) (f78t23 N v4 v5 v1_0 v1_1 v1_2 (seqK (fun σ => f78w22 N M σ K) K)) (funext fun v4 => funext fun v5 => funext fun v1_0 => funext fun v1_1 => funext fun v1_2 => f78t22L N K M v4 v5 v1_0 v1_1 v1_2) (by kernel_rfl) (by kernel_rfl)
theorem f78t22 {ρ : Type} (N : Nat) (v4 v5 : Int) (v1_0 v1_1 : Int) (v1_2 : List Int) (K : KT ρ) : f78i N f78c22 f78p22 (f78s4 v4 v5 v1_0 v1_1 v1_2) (joinK (some f78l3) K) =
  spec_l1Sizes.Z22 N v4 v5 v1_0 v1_1 v1_2 (fun v4 v1_0 v1_1 v1_2 => K (.exit 4) (f78s3 v4 v1_0 v1_1 v1_2)) (fun v2 => K .ret (f78s6 v2)) :=
  viaLoop (by kernel_rfl) (by kernel_rfl) (σ' := f78s4 v4 v5 v1_0 v1_1 v1_2) (by kernel_rfl) (f78t22L N (joinK (some f78l3) K) N v4 v5 v1_0 v1_1 v1_2) (by kernel_rfl)
noncomputable def f78c21 := codeAt (bodyOf Try.f78) [1,1,1,0,1,0,0,1,0,0,1]
noncomputable def f78p21 : Plan := .mk (some f78l3) none f78p22 .n
theorem f78t21 {ρ : Type} (N : Nat) (v4 v5 : Int) (v1_0 v1_1 : Int) (v1_2 : List Int) (K : KT ρ) : f78i N f78c21 f78p21 (f78s4 v4 v5 v1_0 v1_1 v1_2) (joinK (some f78l3) K) =
  spec_l1Sizes.Z21 N v4 v5 v1_0 v1_1 v1_2 (fun v4 v1_0 v1_1 v1_2 => K .nrm (f78s3 v4 v1_0 v1_1 v1_2)) (fun v2 => K .ret (f78s6 v2)) :=
  viaBlock (by kernel_rfl) (by kernel_rfl) (f78t22 N v4 v5 v1_0 v1_1 v1_2 (blockK 4 (joinK (some f78l3) K))) (by kernel_rfl)
noncomputable def f78c19 := codeAt (bodyOf Try.f78) [1,1,1,0,1,0,0,1,0,0]
noncomputable def f78p19 : Plan := .mk (some f78l4) none .n f78p21
theorem f78t19 {ρ : Type} (N : Nat) (v4 v1_0 v1_1 : Int) (v1_2 : List Int) (K : KT ρ) : f78i N f78c19 f78p19 (f78s3 v4 v1_0 v1_1 v1_2) (joinK (some f78l3) K) =
  spec_l1Sizes.Z19 N v4 v1_0 v1_1 v1_2 (fun v4 v1_0 v1_1 v1_2 => K .nrm (f78s3 v4 v1_0 v1_1 v1_2)) (fun v2 => K .ret (f78s6 v2)) :=
  viaSeq (fun k => spec_l1Sizes.Z20 N v4 v1_0 v1_1 v1_2 k) (by kernel_rfl) (by kernel_rfl) (f78t20 N v4 v1_0 v1_1 v1_2 (seqK (fun σ => f78i N f78c21 f78p21 σ (joinK (some f78l3) K)) (joinK (some f78l3) K))) (funext fun v4 => funext fun v5 => funext fun v1_0 => funext fun v1_1 => funext fun v1_2 => f78t21 N v4 v5 v1_0 v1_1 v1_2 K) (by kernel_rfl) (by kernel_rfl)
noncomputable def f78c18 := codeAt (bodyOf Try.f78) [1,1,1,0,1,0,0,1,0]
noncomputable def f78p18 : Plan := .mk (some f78l3) none f78p19 .n
theorem f78t18 {ρ : Type} (N : Nat) (v4 v1_0 v1_1 : Int) (v1_2 : List Int) (K : KT ρ) : f78i N f78c18 f78p18 (f78s3 v4 v1_0 v1_1 v1_2) (joinK (some f78l3) K) =
  spec_l1Sizes.Z18 N v4 v1_0 v1_1 v1_2 (fun v4 v1_0 v1_1 v1_2 => K .nrm (f78s3 v4 v1_0 v1_1 v1_2)) (fun v2 => K .ret (f78s6 v2)) :=
  viaBlock (by kernel_rfl) (by kernel_rfl) (f78t19 N v4 v1_0 v1_1 v1_2 (blockK 3 (joinK (some f78l3) K))) (by kernel_rfl)
noncomputable def f78c24 := codeAt (bodyOf Try.f78) [1,1,1,0,1,0,0,1,1]
theorem f78t24 {ρ : Type} (N : Nat) (v4 v1_0 v1_1 : Int) (v1_2 : List Int) (K : KT ρ) : f78i N f78c24 .n (f78s3 v4 v1_0 v1_1 v1_2) (joinK (some f78l3) K) =
  spec_l1Sizes.Z24 N v4 v1_0 v1_1 v1_2 (fun v4 v1_0 v1_1 v1_2 => K .nrm (f78s3 v4 v1_0 v1_1 v1_2)) := by kernel_rfl
noncomputable def f78c17 := codeAt (bodyOf Try.f78) [1,1,1,0,1,0,0,1]
noncomputable def f78p17 : Plan := .mk (some f78l3) none f78p18 .n
theorem f78t17 {ρ : Type} (N : Nat) (v4 v1_0 v1_1 : Int) (v1_2 : List Int) (K : KT ρ) : f78i N f78c17 f78p17 (f78s3 v4 v1_0 v1_1 v1_2) (joinK (some f78l3) K) =
  spec_l1Sizes.Z17 N v4 v1_0 v1_1 v1_2 (fun v4 v1_0 v1_1 v1_2 => K .nrm (f78s3 v4 v1_0 v1_1 v1_2)) (fun v2 => K .ret (f78s6 v2)) :=
  viaSeq (fun k => spec_l1Sizes.Z18 N v4 v1_0 v1_1 v1_2 k (fun v2 => K .ret (f78s6 v2))) (by kernel_rfl) (by kernel_rfl) (f78t18 N v4 v1_0 v1_1 v1_2 (seqK (fun σ => f78i N f78c24 .n σ (joinK (some f78l3) K)) (joinK (some f78l3) K))) (funext fun v4 => funext fun v1_0 => funext fun v1_1 => funext fun v1_2 => f78t24 N v4 v1_0 v1_1 v1_2 K) (by kernel_rfl) (by kernel_rfl)
noncomputable def f78c15 := codeAt (bodyOf Try.f78) [1,1,1,0,1,0,0]
noncomputable def f78p15 : Plan := .mk (some f78l3) none .n f78p17
theorem f78t15 {ρ : Type} (N : Nat) (v4 v1_0 v1_1 : Int) (v1_2 : List Int) (K : KT ρ) : f78i N f78c15 f78p15 (f78s3 v4 v1_0 v1_1 v1_2) (joinK (some f78l3) K) =
  spec_l1Sizes.Z15 N v4 v1_0 v1_1 v1_2 (fun v4 v1_0 v1_1 v1_2 => K .nrm (f78s3 v4 v1_0 v1_1 v1_2)) (K (.exit 2) f78s5) (fun v2 => K .ret (f78s6 v2)) :=
  viaSeq (fun k => spec_l1Sizes.Z16 N v4 v1_0 v1_1 v1_2 k (K (.exit 2) f78s5)) (by kernel_rfl) (by kernel_rfl) (f78t16 N v4 v1_0 v1_1 v1_2 (seqK (fun σ => f78i N f78c17 f78p17 σ (joinK (some f78l3) K)) (joinK (some f78l3) K))) (funext fun v4 => funext fun v1_0 => funext fun v1_1 => funext fun v1_2 => f78t17 N v4 v1_0 v1_1 v1_2 K) (by kernel_rfl) (by kernel_rfl)
noncomputable def f78c14 := codeAt (bodyOf Try.f78) [1,1,1,0,1,0]
noncomputable def f78p14 : Plan := .mk none (some f78l3) f78p15 .n
noncomputable abbrev f78w14 {ρ : Type} (N M : Nat) (σ : St) (K : KT ρ) : Option ρ := loopC (fun σ K => f78i N f78c15 f78p15 σ K) f78l3 M σ K
theorem f78t14L {ρ : Type} (N : Nat) (K : KT ρ) : ∀ (M : Nat) (v4 v1_0 v1_1 : Int) (v1_2 : List Int), f78w14 N M (f78s3 v4 v1_0 v1_1 v1_2) K =
  spec_l1Sizes.Z14L N (K (.exit 2) f78s5) (fun v2 => K .ret (f78s6 v2)) M v4 v1_0 v1_1 v1_2
  | 0, _, _, _, _ => rfl
  | M + 1, v4, v1_0, v1_1, v1_2 => viaRound (fun k => spec_l1Sizes.Z15 N v4 v1_0 v1_1 v1_2 k (K (.exit 2) f78s5) (fun v2 => K .ret (f78s6 v2))) (f78t15 N v4 v1_0 v1_1 v1_2 (seqK (fun σ => f78w14 N M σ K) K)) (funext fun v4 => funext fun v1_0 => funext fun v1_1 => funext fun v1_2 => f78t14L N K M v4 v1_0 v1_1 v1_2) (by kernel_rfl) (by kernel_rfl)
theorem f78t14 {ρ : Type} (N : Nat) (v4 v1_0 v1_1 : Int) (v1_2 : List Int) (K : KT ρ) : f78i N f78c14 f78p14 (f78s3 v4 v1_0 v1_1 v1_2) (joinK (some f78l5) K) =
  spec_l1Sizes.Z14 N v4 v1_0 v1_1 v1_2 (K (.exit 2) f78s5) (fun v2 => K .ret (f78s6 v2)) :=
  viaLoop (by kernel_rfl) (by kernel_rfl) (σ' := f78s3 v4 v1_0 v1_1 v1_2) (by kernel_rfl) (f78t14L N (joinK (some f78l5) K) N v4 v1_0 v1_1 v1_2) (by kernel_rfl)
noncomputable def f78c13 := codeAt (bodyOf Try.f78) [1,1,1,0,1]
noncomputable def f78p13 : Plan := .mk (some f78l5) none f78p14 .n
theorem f78t13 {ρ : Type} (N : Nat) (v4 v1_0 v1_1 : Int) (v1_2 : List Int) (K : KT ρ) : f78i N f78c13 f78p13 (f78s3 v4 v1_0 v1_1 v1_2) (joinK (some f78l5) K) =
  spec_l1Sizes.Z13 N v4 v1_0 v1_1 v1_2 (K .nrm f78s5) (fun v2 => K .ret (f78s6 v2)) :=
  viaBlock (by kernel_rfl) (by kernel_rfl) (f78t14 N v4 v1_0 v1_1 v1_2 (blockK 2 (joinK (some f78l5) K))) (by kernel_rfl)
noncomputable def f78c11 := codeAt (bodyOf Try.f78) [1,1,1,0]
noncomputable def f78p11 : Plan := .mk (some f78l3) none .n f78p13
theorem f78t11 {ρ : Type} (N : Nat) (v1_0 v1_1 : Int) (v1_2 : List Int) (K : KT ρ) : f78i N f78c11 f78p11 (f78s1 v1_0 v1_1 v1_2) (joinK (some f78l5) K) =
  spec_l1Sizes.Z11 N v1_0 v1_1 v1_2 (K .nrm f78s5) (fun v2 => K .ret (f78s6 v2)) :=
  viaSeq (fun k => spec_l1Sizes.Z12 N v1_0 v1_1 v1_2 k) (by kernel_rfl) (by kernel_rfl) (f78t12 N v1_0 v1_1 v1_2 (seqK (fun σ => f78i N f78c13 f78p13 σ (joinK (some f78l5) K)) (joinK (some f78l5) K))) (funext fun v4 => funext fun v1_0 => funext fun v1_1 => funext fun v1_2 => f78t13 N v4 v1_0 v1_1 v1_2 K) (by kernel_rfl) (by kernel_rfl)
noncomputable def f78c25 := codeAt (bodyOf Try.f78) [1,1,1,1]
theorem f78t25 {ρ : Type} (N : Nat)  (K : KT ρ) : f78i N f78c25 .n f78s5 (joinK (some f78lE) K) =
  spec_l1Sizes.Z25 N (fun v2 => K .ret (f78s6 v2)) := by kernel_rfl
noncomputable def f78c10 := codeAt (bodyOf Try.f78) [1,1,1]
noncomputable def f78p10 : Plan := .mk (some f78l5) none f78p11 .n
theorem f78t10 {ρ : Type} (N : Nat) (v1_0 v1_1 : Int) (v1_2 : List Int) (K : KT ρ) : f78i N f78c10 f78p10 (f78s1 v1_0 v1_1 v1_2) (joinK (some f78lE) K) =
  spec_l1Sizes.Z10 N v1_0 v1_1 v1_2 (fun v2 => K .ret (f78s6 v2)) :=
  viaSeq (fun k => spec_l1Sizes.Z11 N v1_0 v1_1 v1_2 k (fun v2 => K .ret (f78s6 v2))) (by kernel_rfl) (by kernel_rfl) (f78t11 N v1_0 v1_1 v1_2 (seqK (fun σ => f78i N f78c25 .n σ (joinK (some f78lE) K)) (joinK (some f78lE) K))) (f78t25 N K) (by kernel_rfl) (by kernel_rfl)
noncomputable def f78c4 := codeAt (bodyOf Try.f78) [1,1]
noncomputable def f78p4 : Plan := .mk (some f78l1) none f78p5 f78p10
theorem f78t4 {ρ : Type} (N : Nat) (v1_0 v1_1 : Int) (v1_2 : List Int) (K : KT ρ) : f78i N f78c4 f78p4 (f78s1 v1_0 v1_1 v1_2) (joinK (some f78lE) K) =
  spec_l1Sizes.Z4 N v1_0 v1_1 v1_2 (fun v2 => K .ret (f78s6 v2)) :=
  viaSeq (fun k => spec_l1Sizes.Z5 N v1_0 v1_1 v1_2 k (fun v2 => K .ret (f78s6 v2))) (by kernel_rfl) (by kernel_rfl) (f78t5 N v1_0 v1_1 v1_2 (seqK (fun σ => f78i N f78c10 f78p10 σ (joinK (some f78lE) K)) (joinK (some f78lE) K))) (funext fun v1_0 => funext fun v1_1 => funext fun v1_2 => f78t10 N v1_0 v1_1 v1_2 K) (by kernel_rfl) (by kernel_rfl)
noncomputable def f78c2 := codeAt (bodyOf Try.f78) [1]
noncomputable def f78p2 : Plan := .mk (some f78l1) none .n f78p4
theorem f78t2 {ρ : Type} (N : Nat) (v1_0 v1_1 : Int) (v1_2 : List Int) (K : KT ρ) : f78i N f78c2 f78p2 (f78s1 v1_0 v1_1 v1_2) (joinK (some f78lE) K) =
  spec_l1Sizes.Z2 N v1_0 v1_1 v1_2 (fun v2 => K .ret (f78s6 v2)) :=
  viaSeq (fun k => spec_l1Sizes.Z3 N v1_0 v1_1 v1_2 k (fun v2 => K .ret (f78s6 v2))) (by kernel_rfl) (by kernel_rfl) (f78t3 N v1_0 v1_1 v1_2 (seqK (fun σ => f78i N f78c4 f78p4 σ (joinK (some f78lE) K)) (joinK (some f78lE) K))) (funext fun v1_0 => funext fun v1_1 => funext fun v1_2 => f78t4 N v1_0 v1_1 v1_2 K) (by kernel_rfl) (by kernel_rfl)
noncomputable def f78c0 := codeAt (bodyOf Try.f78) []
noncomputable def f78p0 : Plan := .mk (some f78l1) none .n f78p2
theorem f78t0 {ρ : Type} (N : Nat) (v0 : Int × Int × List Int) (K : KT ρ) : f78i N f78c0 f78p0 (f78s0 v0) (joinK (some f78lE) K) =
  spec_l1Sizes.Z0 N v0 (fun v2 => K .ret (f78s6 v2)) :=
  viaSeq (fun k => spec_l1Sizes.Z1 N v0 k) (by kernel_rfl) (by kernel_rfl) (f78t1 N v0 (seqK (fun σ => f78i N f78c2 f78p2 σ (joinK (some f78lE) K)) (joinK (some f78lE) K))) (funext fun v1_0 => funext fun v1_1 => funext fun v1_2 => f78t2 N v1_0 v1_1 v1_2 K) (by kernel_rfl) (by kernel_rfl)
theorem f78m (N : Nat) (v0 : Int × Int × List Int) : f78i N f78c0 f78p0 (f78s0 v0) (joinK (some f78lE) (finK tab f78sig Try.f78.results.toList)) = spec_l1Sizes.Z0 N v0 (fun v2 => some ((), (v2, ()))) :=
  (f78t0 N v0 (finK tab f78sig Try.f78.results.toList)).trans (by kernel_rfl)
theorem f78ok (h : spec_l1Sizes.Spec) : EntryOk Try.prog 78 e78 :=
  entry_of_code (sig := f78sig) (c := f78c0) (pl := f78p0) (je := (some f78lE)) (B := f78B) Try.func78 (by kernel_rfl) (by kernel_rfl) (by kernel_rfl) tabOk f78GOk (by kernel_rfl) (by kernel_rfl) (by kernel_rfl) (by kernel_rfl) fun X hb hp => by
    obtain ⟨v0, _⟩ := X
    obtain ⟨N, h⟩ := h v0 hb.1
    exact ⟨N, (f78m N v0).trans (h N (Nat.le_refl N))⟩
theorem e78ok : EntryOk Try.prog 78 e78 := f78ok spec_l1Sizes.ok
end Go.Fw
set_option linter.unusedVariables false
set_option linter.unusedSimpArgs false
set_option maxRecDepth 100000
namespace Go.Fw
open Go.Proofs
/-! ### loop.example/g03115/spec.l1Has -/
noncomputable def f100sig : Sig := ⟨[⟨.sl 3 (.int .i64), false, false⟩, ⟨.int .i64, false, false⟩], [⟨.bool, false, false⟩]⟩
noncomputable def e100 : Entry := ⟨f100sig, none, fun X => ((), ((spec_l1Has.g X.1 X.2.1), ()))⟩
noncomputable def f100G : Nat → Option Entry := (fun _ => none)
theorem f100GOk : GOk Try.prog f100G := GOk.nil
noncomputable def f100lE : Clean := ⟨[], [], [], [], []⟩
noncomputable def f100s0 (v0 : List Int) (v1 : Int) : St := initSt f100sig.ps (v0, (v1, ()))
noncomputable def f100s1 (v0 : List Int) (v1 : Int) : St := stOf [(0, .c (.sn 3 (.int .i64) v0 none)), (1, .c (.int .i64 v1))] [] []
noncomputable def f100l1 : Clean := ⟨[0, 1], [], [], [], []⟩
noncomputable def f100s2 (v0 : List Int) (v1 v5 : Int) : St := stOf [(0, .c (.sn 3 (.int .i64) v0 none)), (1, .c (.int .i64 v1)), (5, .c (.int .i64 v5))] [] []
noncomputable def f100l2 : Clean := ⟨[0, 1, 5], [], [], [], []⟩
noncomputable def f100s3  : St := stOf [] [] []
noncomputable def f100l3 : Clean := ⟨[], [], [], [], []⟩
noncomputable def f100s4 (v4 : Bool) : St := stOf [(4, .c (.bool v4))] [] []
noncomputable def f100l4 : Clean := ⟨[4], [], [], [], []⟩
noncomputable def f100B : Nat → Option Clean := lookL [(0, f100l3), (1000000, f100l4)]
noncomputable abbrev f100i {ρ : Type} (N : Nat) (c : Code) (p : Plan) (σ : St) (K : KT ρ) : Option ρ := iCode f100G tab f100B N c p σ K
noncomputable def f100c1 := codeAt (bodyOf Try.f100) [0]
theorem f100t1 {ρ : Type} (N : Nat) (v0 : List Int) (v1 : Int) (K : KT ρ) : f100i N f100c1 .n (f100s0 v0 v1) (joinK (some f100l1) K) =
  spec_l1Has.Z1 N v0 v1 (fun v0 v1 => K .nrm (f100s1 v0 v1)) := by kernel_rfl
noncomputable def f100c4 := codeAt (bodyOf Try.f100) [1,0,0]
theorem f100t4 {ρ : Type} (N : Nat) (v0 : List Int) (v1 : Int) (K : KT ρ) : f100i N f100c4 .n (f100s1 v0 v1) (joinK (some f100l2) K) =
  spec_l1Has.Z4 N v0 v1 (fun v0 v1 v5 => K .nrm (f100s2 v0 v1 v5)) := by kernel_rfl
noncomputable def f100c7 := codeAt (bodyOf Try.f100) [1,0,1,0,0]
theorem f100t7 {ρ : Type} (N : Nat) (v0 : List Int) (v1 v5 : Int) (K : KT ρ) : f100i N f100c7 .n (f100s2 v0 v1 v5) (joinK (some f100l2) K) =
  spec_l1Has.Z7 N v0 v1 v5 (fun v0 v1 v5 => K .nrm (f100s2 v0 v1 v5)) (K (.exit 0) f100s3) (fun v4 => K .ret (f100s4 v4)) := by kernel_rfl
noncomputable def f100c6 := codeAt (bodyOf Try.f100) [1,0,1,0]
noncomputable def f100p6 : Plan := .mk none (some f100l2) .n .n
noncomputable abbrev f100w6 {ρ : Type} (N M : Nat) (σ : St) (K : KT ρ) : Option ρ := loopC (fun σ K => f100i N f100c7 .n σ K) f100l2 M σ K
theorem f100t6L {ρ : Type} (N : Nat) (K : KT ρ) : ∀ (M : Nat) (v0 : List Int) (v1 v5 : Int), f100w6 N M (f100s2 v0 v1 v5) K =
  spec_l1Has.Z6L N (K (.exit 0) f100s3) (fun v4 => K .ret (f100s4 v4)) M v0 v1 v5
  | 0, _, _, _ => rfl
  | M + 1, v0, v1, v5 => viaRound (fun k => spec_l1Has.Z7 N v0 v1 v5 k (K (.exit 0) f100s3) (fun v4 => K .ret (f100s4 v4))) (f100t7 N v0 v1 v5 (seqK (fun σ => f100w6 N M σ K) K)) (funext fun v0 => funext fun v1 => funext fun v5 => f100t6L N K M v0 v1 v5) (by kernel_rfl) (by kernel_rfl)
theorem f100t6 {ρ : Type} (N : Nat) (v0 : List Int) (v1 v5 : Int) (K : KT ρ) : f100i N f100c6 f100p6 (f100s2 v0 v1 v5) (joinK (some f100l3) K) =
  spec_l1Has.Z6 N v0 v1 v5 (K (.exit 0) f100s3) (fun v4 => K .ret (f100s4 v4)) :=
  viaLoop (by kernel_rfl) (by kernel_rfl) (σ' := f100s2 v0 v1 v5) (by kernel_rfl) (f100t6L N (joinK (some f100l3) K) N v0 v1 v5) (by kernel_rfl)
noncomputable def f100c5 := codeAt (bodyOf Try.f100) [1,0,1]
noncomputable def f100p5 : Plan := .mk (some f100l3) none f100p6 .n
theorem f100t5 {ρ : Type} (N : Nat) (v0 : List Int) (v1 v5 : Int) (K : KT ρ) : f100i N f100c5 f100p5 (f100s2 v0 v1 v5) (joinK (some f100l3) K) =
  spec_l1Has.Z5 N v0 v1 v5 (K .nrm f100s3) (fun v4 => K .ret (f100s4 v4)) :=
  viaBlock (by kernel_rfl) (by kernel_rfl) (f100t6 N v0 v1 v5 (blockK 0 (joinK (some f100l3) K))) (by kernel_rfl)
noncomputable def f100c3 := codeAt (bodyOf Try.f100) [1,0]
noncomputable def f100p3 : Plan := .mk (some f100l2) none .n f100p5
theorem f100t3 {ρ : Type} (N : Nat) (v0 : List Int) (v1 : Int) (K : KT ρ) : f100i N f100c3 f100p3 (f100s1 v0 v1) (joinK (some f100l3) K) =
  spec_l1Has.Z3 N v0 v1 (K .nrm f100s3) (fun v4 => K .ret (f100s4 v4)) :=
  viaSeq (fun k => spec_l1Has.Z4 N v0 v1 k) (by kernel_rfl) (by kernel_rfl) (f100t4 N v0 v1 (seqK (fun σ => f100i N f100c5 f100p5 σ (joinK (some f100l3) K)) (joinK (some f100l3) K))) (funext fun v0 => funext fun v1 => funext fun v5 => f100t5 N v0 v1 v5 K) (by kernel_rfl) (by kernel_rfl)
noncomputable def f100c8 := codeAt (bodyOf Try.f100) [1,1]
theorem f100t8 {ρ : Type} (N : Nat)  (K : KT ρ) : f100i N f100c8 .n f100s3 (joinK (some f100lE) K) =
  spec_l1Has.Z8 N (fun v4 => K .ret (f100s4 v4)) := by kernel_rfl
noncomputable def f100c2 := codeAt (bodyOf Try.f100) [1]
noncomputable def f100p2 : Plan := .mk (some f100l3) none f100p3 .n
theorem f100t2 {ρ : Type} (N : Nat) (v0 : List Int) (v1 : Int) (K : KT ρ) : f100i N f100c2 f100p2 (f100s1 v0 v1) (joinK (some f100lE) K) =
  spec_l1Has.Z2 N v0 v1 (fun v4 => K .ret (f100s4 v4)) :=
  viaSeq (fun k => spec_l1Has.Z3 N v0 v1 k (fun v4 => K .ret (f100s4 v4))) (by kernel_rfl) (by kernel_rfl) (f100t3 N v0 v1 (seqK (fun σ => f100i N f100c8 .n σ (joinK (some f100lE) K)) (joinK (some f100lE) K))) (f100t8 N K) (by kernel_rfl) (by kernel_rfl)
noncomputable def f100c0 := codeAt (bodyOf Try.f100) []
noncomputable def f100p0 : Plan := .mk (some f100l1) none .n f100p2
theorem f100t0 {ρ : Type} (N : Nat) (v0 : List Int) (v1 : Int) (K : KT ρ) : f100i N f100c0 f100p0 (f100s0 v0 v1) (joinK (some f100lE) K) =
  spec_l1Has.Z0 N v0 v1 (fun v4 => K .ret (f100s4 v4)) :=
  viaSeq (fun k => spec_l1Has.Z1 N v0 v1 k) (by kernel_rfl) (by kernel_rfl) (f100t1 N v0 v1 (seqK (fun σ => f100i N f100c2 f100p2 σ (joinK (some f100lE) K)) (joinK (some f100lE) K))) (funext fun v0 => funext fun v1 => f100t2 N v0 v1 K) (by kernel_rfl) (by kernel_rfl)
theorem f100m (N : Nat) (v0 : List Int) (v1 : Int) : f100i N f100c0 f100p0 (f100s0 v0 v1) (joinK (some f100lE) (finK tab f100sig Try.f100.results.toList)) = spec_l1Has.Z0 N v0 v1 (fun v4 => some ((), (v4, ()))) :=
  (f100t0 N v0 v1 (finK tab f100sig Try.f100.results.toList)).trans (by kernel_rfl)
theorem f100ok (h : spec_l1Has.Spec) : EntryOk Try.prog 100 e100 :=
  entry_of_code (sig := f100sig) (c := f100c0) (pl := f100p0) (je := (some f100lE)) (B := f100B) Try.func100 (by kernel_rfl) (by kernel_rfl) (by kernel_rfl) tabOk f100GOk (by kernel_rfl) (by kernel_rfl) (by kernel_rfl) (by kernel_rfl) fun X hb hp => by
    obtain ⟨v0, v1, _⟩ := X
    obtain ⟨N, h⟩ := h v0 v1 hb.1
    exact ⟨N, (f100m N v0 v1).trans (h N (Nat.le_refl N))⟩
theorem e100ok : EntryOk Try.prog 100 e100 := f100ok spec_l1Has.ok
end Go.Fw
set_option linter.unusedVariables false
set_option linter.unusedSimpArgs false
set_option maxRecDepth 100000
namespace Go.Fw
open Go.Proofs
/-! ### loop.example/g03115/spec.l1Piece -/
noncomputable def f114sig : Sig := ⟨[⟨.pair (.int .i64) (.pair (.int .i64) (.sl 3 (.int .i64))), true, false⟩, ⟨.int .i64, false, false⟩], [⟨.sl 3 (.int .i64), false, false⟩, ⟨.sl 3 (.int .i64), false, false⟩]⟩
noncomputable def e114 : Entry := ⟨f114sig, (some fun X => spec_l1Piece.P X.1 X.2.1), fun X => ((), ((spec_l1Piece.g X.1 X.2.1).1, ((spec_l1Piece.g X.1 X.2.1).2, ())))⟩
noncomputable def f114G : Nat → Option Entry := addG (addG (fun _ => none) 75 e75) 100 e100
theorem f114GOk : GOk Try.prog f114G := ((GOk.nil).add e75ok (by kernel_rfl)).add e100ok (by kernel_rfl)
noncomputable def f114lE : Clean := ⟨[], [], [], [], []⟩
noncomputable def f114s0 (v0 : Int × Int × List Int) (v1 : Int) : St := initSt f114sig.ps (v0, (v1, ()))
noncomputable def f114s1 (v1 v2_0 v2_1 : Int) (v2_2 : List Int) : St := stOf [(1, .c (.int .i64 v1)), (2, .c (.box 2 0))] [(2, (26, [.int .i64 v2_0, .int .i64 v2_1, .sn 3 (.int .i64) v2_2 none]))] []
noncomputable def f114l1 : Clean := ⟨[1, 2], [2], [], [], []⟩
noncomputable def f114s2 (v6 : List Int) (v1 v2_0 v2_1 : Int) (v2_2 : List Int) : St := stOf [(1, .c (.int .i64 v1)), (2, .c (.box 2 0)), (6, .c (.own 1000384))] [(2, (26, [.int .i64 v2_0, .int .i64 v2_1, .sn 3 (.int .i64) v2_2 none]))] [(1000384, (⟨3, .int .i64, v6, true, false⟩ : Row))]
noncomputable def f114l2 : Clean := ⟨[1, 2, 6], [2], [], [], [(⟨false, 6, 0⟩, 1000384)]⟩
noncomputable def f114s3 (v6 v7 : List Int) (v2_0 v2_1 : Int) (v2_2 : List Int) : St := stOf [(2, .c (.box 2 0)), (6, .c (.own 1000384)), (7, .c (.own 1000448))] [(2, (26, [.int .i64 v2_0, .int .i64 v2_1, .sn 3 (.int .i64) v2_2 none]))] [(1000384, (⟨3, .int .i64, v6, true, false⟩ : Row)), (1000448, (⟨3, .int .i64, v7, true, false⟩ : Row))]
noncomputable def f114l3 : Clean := ⟨[2, 6, 7], [2], [], [], [(⟨false, 6, 0⟩, 1000384), (⟨false, 7, 0⟩, 1000448)]⟩
noncomputable def f114s4 (v6 v7 : List Int) (v8 v2_0 v2_1 : Int) (v2_2 : List Int) : St := stOf [(2, .c (.box 2 0)), (6, .c (.own 1000384)), (7, .c (.own 1000448)), (8, .c (.int .i64 v8))] [(2, (26, [.int .i64 v2_0, .int .i64 v2_1, .sn 3 (.int .i64) v2_2 none]))] [(1000384, (⟨3, .int .i64, v6, true, false⟩ : Row)), (1000448, (⟨3, .int .i64, v7, true, false⟩ : Row))]
noncomputable def f114l4 : Clean := ⟨[2, 6, 7, 8], [2], [], [], [(⟨false, 6, 0⟩, 1000384), (⟨false, 7, 0⟩, 1000448)]⟩
noncomputable def f114s5 (v6 v7 : List Int) (v8 v9 : Int) (v2_0 v2_1 : Int) (v2_2 : List Int) : St := stOf [(2, .c (.box 2 0)), (6, .c (.own 1000384)), (7, .c (.own 1000448)), (8, .c (.int .i64 v8)), (9, .c (.int .i64 v9))] [(2, (26, [.int .i64 v2_0, .int .i64 v2_1, .sn 3 (.int .i64) v2_2 none]))] [(1000384, (⟨3, .int .i64, v6, true, false⟩ : Row)), (1000448, (⟨3, .int .i64, v7, true, false⟩ : Row))]
noncomputable def f114l5 : Clean := ⟨[2, 6, 7, 8, 9], [2], [], [], [(⟨false, 6, 0⟩, 1000384), (⟨false, 7, 0⟩, 1000448)]⟩
noncomputable def f114s6 (v6 v7 : List Int) : St := stOf [(6, .c (.own 1000384)), (7, .c (.own 1000448))] [] [(1000384, (⟨3, .int .i64, v6, true, false⟩ : Row)), (1000448, (⟨3, .int .i64, v7, true, false⟩ : Row))]
noncomputable def f114l6 : Clean := ⟨[6, 7], [], [], [], [(⟨false, 6, 0⟩, 1000384), (⟨false, 7, 0⟩, 1000448)]⟩
noncomputable def f114s7 (v4 v5 : List Int) : St := stOf [(4, .c (.own 1000256)), (5, .c (.own 1000320))] [] [(1000256, (⟨3, .int .i64, v4, true, false⟩ : Row)), (1000320, (⟨3, .int .i64, v5, true, false⟩ : Row))]
noncomputable def f114l7 : Clean := ⟨[4, 5], [], [], [], [(⟨false, 4, 0⟩, 1000256), (⟨false, 5, 0⟩, 1000320)]⟩
noncomputable def f114B : Nat → Option Clean := lookL [(2, f114l4), (1, f114l4), (0, f114l6), (1000000, f114l7)]
noncomputable abbrev f114i {ρ : Type} (N : Nat) (c : Code) (p : Plan) (σ : St) (K : KT ρ) : Option ρ := iCode f114G tab f114B N c p σ K
noncomputable def f114c1 := codeAt (bodyOf Try.f114) [0]
theorem f114t1 {ρ : Type} (N : Nat) (v0 : Int × Int × List Int) (v1 : Int) (K : KT ρ) : f114i N f114c1 .n (f114s0 v0 v1) (joinK (some f114l1) K) =
  spec_l1Piece.Z1 N v0 v1 (fun v1 v2_0 v2_1 v2_2 => K .nrm (f114s1 v1 v2_0 v2_1 v2_2)) := by kernel_rfl
noncomputable def f114c3 := codeAt (bodyOf Try.f114) [1,0]
theorem f114t3 {ρ : Type} (N : Nat) (v1 v2_0 v2_1 : Int) (v2_2 : List Int) (K : KT ρ) : f114i N f114c3 .n (f114s1 v1 v2_0 v2_1 v2_2) (joinK (some f114l2) K) =
  spec_l1Piece.Z3 N v1 v2_0 v2_1 v2_2 (fun v6 v1 v2_0 v2_1 v2_2 => K .nrm (f114s2 v6 v1 v2_0 v2_1 v2_2)) := by kernel_rfl
noncomputable def f114c5 := codeAt (bodyOf Try.f114) [1,1,0]
theorem f114t5 {ρ : Type} (N : Nat) (v6 : List Int) (v1 v2_0 v2_1 : Int) (v2_2 : List Int) (K : KT ρ) : f114i N f114c5 .n (f114s2 v6 v1 v2_0 v2_1 v2_2) (joinK (some f114l3) K) =
  spec_l1Piece.Z5 N v6 v1 v2_0 v2_1 v2_2 (fun v6 v7 v2_0 v2_1 v2_2 => K .nrm (f114s3 v6 v7 v2_0 v2_1 v2_2)) := by kernel_rfl
noncomputable def f114c8 := codeAt (bodyOf Try.f114) [1,1,1,0,0]
theorem f114t8 {ρ : Type} (N : Nat) (v6 v7 : List Int) (v2_0 v2_1 : Int) (v2_2 : List Int) (K : KT ρ) : f114i N f114c8 .n (f114s3 v6 v7 v2_0 v2_1 v2_2) (joinK (some f114l4) K) =
  spec_l1Piece.Z8 N v6 v7 v2_0 v2_1 v2_2 (fun v6 v7 v8 v2_0 v2_1 v2_2 => K .nrm (f114s4 v6 v7 v8 v2_0 v2_1 v2_2)) := by kernel_rfl
noncomputable def f114c12 := codeAt (bodyOf Try.f114) [1,1,1,0,1,0,0,0]
theorem f114t12 {ρ : Type} (N : Nat) (v6 v7 : List Int) (v8 v2_0 v2_1 : Int) (v2_2 : List Int) (K : KT ρ) : f114i N f114c12 .n (f114s4 v6 v7 v8 v2_0 v2_1 v2_2) (joinK (some f114l4) K) =
  spec_l1Piece.Z12 N v6 v7 v8 v2_0 v2_1 v2_2 (fun v6 v7 v8 v2_0 v2_1 v2_2 => K .nrm (f114s4 v6 v7 v8 v2_0 v2_1 v2_2)) (fun v6 v7 => K (.exit 0) (f114s6 v6 v7)) := by kernel_rfl
noncomputable def f114c16 := codeAt (bodyOf Try.f114) [1,1,1,0,1,0,0,1,0,0,0]
theorem f114t16 {ρ : Type} (N : Nat) (v6 v7 : List Int) (v8 v2_0 v2_1 : Int) (v2_2 : List Int) (K : KT ρ) : f114i N f114c16 .n (f114s4 v6 v7 v8 v2_0 v2_1 v2_2) (joinK (some f114l5) K) =
  spec_l1Piece.Z16 N v6 v7 v8 v2_0 v2_1 v2_2 (fun v6 v7 v8 v9 v2_0 v2_1 v2_2 => K .nrm (f114s5 v6 v7 v8 v9 v2_0 v2_1 v2_2)) := by kernel_rfl
noncomputable def f114c19 := codeAt (bodyOf Try.f114) [1,1,1,0,1,0,0,1,0,0,1,0,0]
theorem f114t19 {ρ : Type} (N : Nat) (v6 v7 : List Int) (v8 v9 : Int) (v2_0 v2_1 : Int) (v2_2 : List Int) (K : KT ρ) : f114i N f114c19 .n (f114s5 v6 v7 v8 v9 v2_0 v2_1 v2_2) (joinK (some f114l5) K) =
  spec_l1Piece.Z19 N v6 v7 v8 v9 v2_0 v2_1 v2_2 (fun v6 v7 v8 v9 v2_0 v2_1 v2_2 => K .nrm (f114s5 v6 v7 v8 v9 v2_0 v2_1 v2_2)) (fun v6 v7 v8 v2_0 v2_1 v2_2 => K (.exit 2) (f114s4 v6 v7 v8 v2_0 v2_1 v2_2)) := by kernel_rfl
noncomputable def f114c18 := codeAt (bodyOf Try.f114) [1,1,1,0,1,0,0,1,0,0,1,0]
noncomputable def f114p18 : Plan := .mk none (some f114l5) .n .n
noncomputable abbrev f114w18 {ρ : Type} (N M : Nat) (σ : St) (K : KT ρ) : Option ρ := loopC (fun σ K => f114i N f114c19 .n σ K) f114l5 M σ K
theorem f114t18L {ρ : Type} (N : Nat) (K : KT ρ) : ∀ (M : Nat) (v6 v7 : List Int) (v8 v9 : Int) (v2_0 v2_1 : Int) (v2_2 : List Int), f114w18 N M (f114s5 v6 v7 v8 v9 v2_0 v2_1 v2_2) K =
  spec_l1Piece.Z18L N (fun v6 v7 v8 v2_0 v2_1 v2_2 => K (.exit 2) (f114s4 v6 v7 v8 v2_0 v2_1 v2_2)) M v6 v7 v8 v9 v2_0 v2_1 v2_2
  | 0, _, _, _, _, _, _, _ => rfl
  | M + 1, v6, v7, v8, v9, v2_0, v2_1, v2_2 => viaRound (fun k => spec_l1Piece.Z19 N v6 v7 v8 v9 v2_0 v2_1 v2_2 k (fun v6 v7 v8 v2_0 v2_1 v2_2 => K (.exit 2) (f114s4 v6 v7 v8 v2_0 v2_1 v2_2))) (f114t19 N v6 v7 v8 v9 v2_0 v2_1 v2_2 (seqK (fun σ => f114w18 N M σ K) K)) (funext fun v6 => funext fun v7 => funext fun v8 => funext fun v9 => funext fun v2_0 => funext fun v2_1 => funext fun v2_2 => f114t18L N K M v6 v7 v8 v9 v2_0 v2_1 v2_2) (by kernel_rfl) (by kernel_rfl)
theorem f114t18 {ρ : Type} (N : Nat) (v6 v7 : List Int) (v8 v9 : Int) (v2_0 v2_1 : Int) (v2_2 : List Int) (K : KT ρ) : f114i N f114c18 f114p18 (f114s5 v6 v7 v8 v9 v2_0 v2_1 v2_2) (joinK (some f114l4) K) =
  spec_l1Piece.Z18 N v6 v7 v8 v9 v2_0 v2_1 v2_2 (fun v6 v7 v8 v2_0 v2_1 v2_2 => K (.exit 2) (f114s4 v6 v7 v8 v2_0 v2_1 v2_2)) :=
  viaLoop (by kernel_rfl) (by kernel_rfl) (σ' := f114s5 v6 v7 v8 v9 v2_0 v2_1 v2_2) (by kernel_rfl) (f114t18L N (joinK (some f114l4) K) N v6 v7 v8 v9 v2_0 v2_1 v2_2) (by kernel_rfl)
noncomputable def f114c17 := codeAt (bodyOf Try.f114) [1,1,1,0,1,0,0,1,0,0,1]
noncomputable def f114p17 : Plan := .mk (some f114l4) none f114p18 .n
theorem f114t17 {ρ : Type} (N : Nat) (v6 v7 : List Int) (v8 v9 : Int) (v2_0 v2_1 : Int) (v2_2 : List Int) (K : KT ρ) : f114i N f114c17 f114p17 (f114s5 v6 v7 v8 v9 v2_0 v2_1 v2_2) (joinK (some f114l4) K) =
  spec_l1Piece.Z17 N v6 v7 v8 v9 v2_0 v2_1 v2_2 (fun v6 v7 v8 v2_0 v2_1 v2_2 => K .nrm (f114s4 v6 v7 v8 v2_0 v2_1 v2_2)) :=
  viaBlock (by kernel_rfl) (by kernel_rfl) (f114t18 N v6 v7 v8 v9 v2_0 v2_1 v2_2 (blockK 2 (joinK (some f114l4) K))) (by kernel_rfl)
noncomputable def f114c15 := codeAt (bodyOf Try.f114) [1,1,1,0,1,0,0,1,0,0]
noncomputable def f114p15 : Plan := .mk (some f114l5) none .n f114p17
theorem f114t15 {ρ : Type} (N : Nat) (v6 v7 : List Int) (v8 v2_0 v2_1 : Int) (v2_2 : List Int) (K : KT ρ) : f114i N f114c15 f114p15 (f114s4 v6 v7 v8 v2_0 v2_1 v2_2) (joinK (some f114l4) K) =
  spec_l1Piece.Z15 N v6 v7 v8 v2_0 v2_1 v2_2 (fun v6 v7 v8 v2_0 v2_1 v2_2 => K .nrm (f114s4 v6 v7 v8 v2_0 v2_1 v2_2)) :=
  viaSeq (fun k => spec_l1Piece.Z16 N v6 v7 v8 v2_0 v2_1 v2_2 k) (by kernel_rfl) (by kernel_rfl) (f114t16 N v6 v7 v8 v2_0 v2_1 v2_2 (seqK (fun σ => f114i N f114c17 f114p17 σ (joinK (some f114l4) K)) (joinK (some f114l4) K))) (funext fun v6 => funext fun v7 => funext fun v8 => funext fun v9 => funext fun v2_0 => funext fun v2_1 => funext fun v2_2 => f114t17 N v6 v7 v8 v9 v2_0 v2_1 v2_2 K) (by kernel_rfl) (by kernel_rfl)
noncomputable def f114c14 := codeAt (bodyOf Try.f114) [1,1,1,0,1,0,0,1,0]
noncomputable def f114p14 : Plan := .mk (some f114l4) none f114p15 .n
theorem f114t14 {ρ : Type} (N : Nat) (v6 v7 : List Int) (v8 v2_0 v2_1 : Int) (v2_2 : List Int) (K : KT ρ) : f114i N f114c14 f114p14 (f114s4 v6 v7 v8 v2_0 v2_1 v2_2) (joinK (some f114l4) K) =
  spec_l1Piece.Z14 N v6 v7 v8 v2_0 v2_1 v2_2 (fun v6 v7 v8 v2_0 v2_1 v2_2 => K .nrm (f114s4 v6 v7 v8 v2_0 v2_1 v2_2)) :=
  viaBlock (by kernel_rfl) (by kernel_rfl) (f114t15 N v6 v7 v8 v2_0 v2_1 v2_2 (blockK 1 (joinK (some f114l4) K))) (by kernel_rfl)
noncomputable def f114c20 := codeAt (bodyOf Try.f114) [1,1,1,0,1,0,0,1,1]
theorem f114t20 {ρ : Type} (N : Nat) (v6 v7 : List Int) (v8 v2_0 v2_1 : Int) (v2_2 : List Int) (K : KT ρ) : f114i N f114c20 .n (f114s4 v6 v7 v8 v2_0 v2_1 v2_2) (joinK (some f114l4) K) =
  spec_l1Piece.Z20 N v6 v7 v8 v2_0 v2_1 v2_2 (fun v6 v7 v8 v2_0 v2_1 v2_2 => K .nrm (f114s4 v6 v7 v8 v2_0 v2_1 v2_2)) := by kernel_rfl
noncomputable def f114c13 := codeAt (bodyOf Try.f114) [1,1,1,0,1,0,0,1]
noncomputable def f114p13 : Plan := .mk (some f114l4) none f114p14 .n
theorem f114t13 {ρ : Type} (N : Nat) (v6 v7 : List Int) (v8 v2_0 v2_1 : Int) (v2_2 : List Int) (K : KT ρ) : f114i N f114c13 f114p13 (f114s4 v6 v7 v8 v2_0 v2_1 v2_2) (joinK (some f114l4) K) =
  spec_l1Piece.Z13 N v6 v7 v8 v2_0 v2_1 v2_2 (fun v6 v7 v8 v2_0 v2_1 v2_2 => K .nrm (f114s4 v6 v7 v8 v2_0 v2_1 v2_2)) :=
  viaSeq (fun k => spec_l1Piece.Z14 N v6 v7 v8 v2_0 v2_1 v2_2 k) (by kernel_rfl) (by kernel_rfl) (f114t14 N v6 v7 v8 v2_0 v2_1 v2_2 (seqK (fun σ => f114i N f114c20 .n σ (joinK (some f114l4) K)) (joinK (some f114l4) K))) (funext fun v6 => funext fun v7 => funext fun v8 => funext fun v2_0 => funext fun v2_1 => funext fun v2_2 => f114t20 N v6 v7 v8 v2_0 v2_1 v2_2 K) (by kernel_rfl) (by kernel_rfl)
noncomputable def f114c11 := codeAt (bodyOf Try.f114) [1,1,1,0,1,0,0]
noncomputable def f114p11 : Plan := .mk (some f114l4) none .n f114p13
theorem f114t11 {ρ : Type} (N : Nat) (v6 v7 : List Int) (v8 v2_0 v2_1 : Int) (v2_2 : List Int) (K : KT ρ) : f114i N f114c11 f114p11 (f114s4 v6 v7 v8 v2_0 v2_1 v2_2) (joinK (some f114l4) K) =
  spec_l1Piece.Z11 N v6 v7 v8 v2_0 v2_1 v2_2 (fun v6 v7 v8 v2_0 v2_1 v2_2 => K .nrm (f114s4 v6 v7 v8 v2_0 v2_1 v2_2)) (fun v6 v7 => K (.exit 0) (f114s6 v6 v7)) :=
  viaSeq (fun k => spec_l1Piece.Z12 N v6 v7 v8 v2_0 v2_1 v2_2 k (fun v6 v7 => K (.exit 0) (f114s6 v6 v7))) (by kernel_rfl) (by kernel_rfl) (f114t12 N v6 v7 v8 v2_0 v2_1 v2_2 (seqK (fun σ => f114i N f114c13 f114p13 σ (joinK (some f114l4) K)) (joinK (some f114l4) K))) (funext fun v6 => funext fun v7 => funext fun v8 => funext fun v2_0 => funext fun v2_1 => funext fun v2_2 => f114t13 N v6 v7 v8 v2_0 v2_1 v2_2 K) (by kernel_rfl) (by kernel_rfl)
noncomputable def f114c10 := codeAt (bodyOf Try.f114) [1,1,1,0,1,0]
noncomputable def f114p10 : Plan := .mk none (some f114l4) f114p11 .n
noncomputable abbrev f114w10 {ρ : Type} (N M : Nat) (σ : St) (K : KT ρ) : Option ρ := loopC (fun σ K => f114i N f114c11 f114p11 σ K) f114l4 M σ K
theorem f114t10L {ρ : Type} (N : Nat) (K : KT ρ) : ∀ (M : Nat) (v6 v7 : List Int) (v8 v2_0 v2_1 : Int) (v2_2 : List Int), f114w10 N M (f114s4 v6 v7 v8 v2_0 v2_1 v2_2) K =
  spec_l1Piece.Z10L N (fun v6 v7 => K (.exit 0) (f114s6 v6 v7)) M v6 v7 v8 v2_0 v2_1 v2_2
  | 0, _, _, _, _, _, _ => rfl
  | M + 1, v6, v7, v8, v2_0, v2_1, v2_2 => viaRound (fun k => spec_l1Piece.Z11 N v6 v7 v8 v2_0 v2_1 v2_2 k (fun v6 v7 => K (.exit 0) (f114s6 v6 v7))) (f114t11 N v6 v7 v8 v2_0 v2_1 v2_2 (seqK (fun σ => f114w10 N M σ K) K)) (funext fun v6 => funext fun v7 => funext fun v8 => funext fun v2_0 => funext fun v2_1 => funext fun v2_2 => f114t10L N K M v6 v7 v8 v2_0 v2_1 v2_2) (by kernel_rfl) (by kernel_rfl)
theorem f114t10 {ρ : Type} (N : Nat) (v6 v7 : List Int) (v8 v2_0 v2_1 : Int) (v2_2 : List Int) (K : KT ρ) : f114i N f114c10 f114p10 (f114s4 v6 v7 v8 v2_0 v2_1 v2_2) (joinK (some f114l6) K) =
  spec_l1Piece.Z10 N v6 v7 v8 v2_0 v2_1 v2_2 (fun v6 v7 => K (.exit 0) (f114s6 v6 v7)) :=
  viaLoop (by kernel_rfl) (by kernel_rfl) (σ' := f114s4 v6 v7 v8 v2_0 v2_1 v2_2) (by kernel_rfl) (f114t10L N (joinK (some f114l6) K) N v6 v7 v8 v2_0 v2_1 v2_2) (by kernel_rfl)
noncomputable def f114c9 := codeAt (bodyOf Try.f114) [1,1,1,0,1]
noncomputable def f114p9 : Plan := .mk (some f114l6) none f114p10 .n
theorem f114t9 {ρ : Type} (N : Nat) (v6 v7 : List Int) (v8 v2_0 v2_1 : Int) (v2_2 : List Int) (K : KT ρ) : f114i N f114c9 f114p9 (f114s4 v6 v7 v8 v2_0 v2_1 v2_2) (joinK (some f114l6) K) =
  spec_l1Piece.Z9 N v6 v7 v8 v2_0 v2_1 v2_2 (fun v6 v7 => K .nrm (f114s6 v6 v7)) :=
  viaBlock (by kernel_rfl) (by kernel_rfl) (f114t10 N v6 v7 v8 v2_0 v2_1 v2_2 (blockK 0 (joinK (some f114l6) K))) (by kernel_rfl)
noncomputable def f114c7 := codeAt (bodyOf Try.f114) [1,1,1,0]
noncomputable def f114p7 : Plan := .mk (some f114l4) none .n f114p9
theorem f114t7 {ρ : Type} (N : Nat) (v6 v7 : List Int) (v2_0 v2_1 : Int) (v2_2 : List Int) (K : KT ρ) : f114i N f114c7 f114p7 (f114s3 v6 v7 v2_0 v2_1 v2_2) (joinK (some f114l6) K) =
  spec_l1Piece.Z7 N v6 v7 v2_0 v2_1 v2_2 (fun v6 v7 => K .nrm (f114s6 v6 v7)) :=
  viaSeq (fun k => spec_l1Piece.Z8 N v6 v7 v2_0 v2_1 v2_2 k) (by kernel_rfl) (by kernel_rfl) (f114t8 N v6 v7 v2_0 v2_1 v2_2 (seqK (fun σ => f114i N f114c9 f114p9 σ (joinK (some f114l6) K)) (joinK (some f114l6) K))) (funext fun v6 => funext fun v7 => funext fun v8 => funext fun v2_0 => funext fun v2_1 => funext fun v2_2 => f114t9 N v6 v7 v8 v2_0 v2_1 v2_2 K) (by kernel_rfl) (by kernel_rfl)
noncomputable def f114c21 := codeAt (bodyOf Try.f114) [1,1,1,1]
theorem f114t21 {ρ : Type} (N : Nat) (v6 v7 : List Int) (K : KT ρ) : f114i N f114c21 .n (f114s6 v6 v7) (joinK (some f114lE) K) =
  spec_l1Piece.Z21 N v6 v7 (fun v4 v5 => K .ret (f114s7 v4 v5)) := by kernel_rfl
noncomputable def f114c6 := codeAt (bodyOf Try.f114) [1,1,1]
noncomputable def f114p6 : Plan := .mk (some f114l6) none f114p7 .n
theorem f114t6 {ρ : Type} (N : Nat) (v6 v7 : List Int) (v2_0 v2_1 : Int) (v2_2 : List Int) (K : KT ρ) : f114i N f114c6 f114p6 (f114s3 v6 v7 v2_0 v2_1 v2_2) (joinK (some f114lE) K) =
  spec_l1Piece.Z6 N v6 v7 v2_0 v2_1 v2_2 (fun v4 v5 => K .ret (f114s7 v4 v5)) :=
  viaSeq (fun k => spec_l1Piece.Z7 N v6 v7 v2_0 v2_1 v2_2 k) (by kernel_rfl) (by kernel_rfl) (f114t7 N v6 v7 v2_0 v2_1 v2_2 (seqK (fun σ => f114i N f114c21 .n σ (joinK (some f114lE) K)) (joinK (some f114lE) K))) (funext fun v6 => funext fun v7 => f114t21 N v6 v7 K) (by kernel_rfl) (by kernel_rfl)
noncomputable def f114c4 := codeAt (bodyOf Try.f114) [1,1]
noncomputable def f114p4 : Plan := .mk (some f114l3) none .n f114p6
theorem f114t4 {ρ : Type} (N : Nat) (v6 : List Int) (v1 v2_0 v2_1 : Int) (v2_2 : List Int) (K : KT ρ) : f114i N f114c4 f114p4 (f114s2 v6 v1 v2_0 v2_1 v2_2) (joinK (some f114lE) K) =
  spec_l1Piece.Z4 N v6 v1 v2_0 v2_1 v2_2 (fun v4 v5 => K .ret (f114s7 v4 v5)) :=
  viaSeq (fun k => spec_l1Piece.Z5 N v6 v1 v2_0 v2_1 v2_2 k) (by kernel_rfl) (by kernel_rfl) (f114t5 N v6 v1 v2_0 v2_1 v2_2 (seqK (fun σ => f114i N f114c6 f114p6 σ (joinK (some f114lE) K)) (joinK (some f114lE) K))) (funext fun v6 => funext fun v7 => funext fun v2_0 => funext fun v2_1 => funext fun v2_2 => f114t6 N v6 v7 v2_0 v2_1 v2_2 K) (by kernel_rfl) (by kernel_rfl)
noncomputable def f114c2 := codeAt (bodyOf Try.f114) [1]
noncomputable def f114p2 : Plan := .mk (some f114l2) none .n f114p4
theorem f114t2 {ρ : Type} (N : Nat) (v1 v2_0 v2_1 : Int) (v2_2 : List Int) (K : KT ρ) : f114i N f114c2 f114p2 (f114s1 v1 v2_0 v2_1 v2_2) (joinK (some f114lE) K) =
  spec_l1Piece.Z2 N v1 v2_0 v2_1 v2_2 (fun v4 v5 => K .ret (f114s7 v4 v5)) :=
  viaSeq (fun k => spec_l1Piece.Z3 N v1 v2_0 v2_1 v2_2 k) (by kernel_rfl) (by kernel_rfl) (f114t3 N v1 v2_0 v2_1 v2_2 (seqK (fun σ => f114i N f114c4 f114p4 σ (joinK (some f114lE) K)) (joinK (some f114lE) K))) (funext fun v6 => funext fun v1 => funext fun v2_0 => funext fun v2_1 => funext fun v2_2 => f114t4 N v6 v1 v2_0 v2_1 v2_2 K) (by kernel_rfl) (by kernel_rfl)
noncomputable def f114c0 := codeAt (bodyOf Try.f114) []
noncomputable def f114p0 : Plan := .mk (some f114l1) none .n f114p2
theorem f114t0 {ρ : Type} (N : Nat) (v0 : Int × Int × List Int) (v1 : Int) (K : KT ρ) : f114i N f114c0 f114p0 (f114s0 v0 v1) (joinK (some f114lE) K) =
  spec_l1Piece.Z0 N v0 v1 (fun v4 v5 => K .ret (f114s7 v4 v5)) :=
  viaSeq (fun k => spec_l1Piece.Z1 N v0 v1 k) (by kernel_rfl) (by kernel_rfl) (f114t1 N v0 v1 (seqK (fun σ => f114i N f114c2 f114p2 σ (joinK (some f114lE) K)) (joinK (some f114lE) K))) (funext fun v1 => funext fun v2_0 => funext fun v2_1 => funext fun v2_2 => f114t2 N v1 v2_0 v2_1 v2_2 K) (by kernel_rfl) (by kernel_rfl)
theorem f114m (N : Nat) (v0 : Int × Int × List Int) (v1 : Int) : f114i N f114c0 f114p0 (f114s0 v0 v1) (joinK (some f114lE) (finK tab f114sig Try.f114.results.toList)) = spec_l1Piece.Z0 N v0 v1 (fun v4 v5 => some ((), (v4, (v5, ())))) :=
  (f114t0 N v0 v1 (finK tab f114sig Try.f114.results.toList)).trans (by kernel_rfl)
theorem f114ok (h : spec_l1Piece.Spec) : EntryOk Try.prog 114 e114 :=
  entry_of_code (sig := f114sig) (c := f114c0) (pl := f114p0) (je := (some f114lE)) (B := f114B) Try.func114 (by kernel_rfl) (by kernel_rfl) (by kernel_rfl) tabOk f114GOk (by kernel_rfl) (by kernel_rfl) (by kernel_rfl) (by kernel_rfl) fun X hb hp => by
    obtain ⟨v0, v1, _⟩ := X
    obtain ⟨N, h⟩ := h v0 v1 hb.1 hp
    exact ⟨N, (f114m N v0 v1).trans (h N (Nat.le_refl N))⟩
theorem e114ok : EntryOk Try.prog 114 e114 := f114ok spec_l1Piece.ok
end Go.Fw
set_option linter.unusedVariables false
set_option linter.unusedSimpArgs false
set_option maxRecDepth 100000
namespace Go.Fw
open Go.Proofs
/-! ### loop.example/g03115/spec.l1Abs -/
noncomputable def f74sig : Sig := ⟨[⟨.int .i64, false, false⟩], [⟨.int .i64, false, false⟩]⟩
noncomputable def e74 : Entry := ⟨f74sig, none, fun X => ((), ((spec_l1Abs.g X.1), ()))⟩
noncomputable def f74G : Nat → Option Entry := (fun _ => none)
theorem f74GOk : GOk Try.prog f74G := GOk.nil
noncomputable def f74lE : Clean := ⟨[], [], [], [], []⟩
noncomputable def f74s0 (v0 : Int) : St := initSt f74sig.ps (v0, ())
noncomputable def f74s1 (v2 : Int) : St := stOf [(2, .c (.int .i64 v2))] [] []
noncomputable def f74l1 : Clean := ⟨[2], [], [], [], []⟩
noncomputable def f74B : Nat → Option Clean := lookL [(1000000, f74l1)]
noncomputable abbrev f74i {ρ : Type} (N : Nat) (c : Code) (p : Plan) (σ : St) (K : KT ρ) : Option ρ := iCode f74G tab f74B N c p σ K
noncomputable def f74c0 := codeAt (bodyOf Try.f74) []
theorem f74t0 {ρ : Type} (N : Nat) (v0 : Int) (K : KT ρ) : f74i N f74c0 .n (f74s0 v0) (joinK (some f74lE) K) =
  spec_l1Abs.Z0 N v0 (fun v2 => K .ret (f74s1 v2)) := by kernel_rfl
theorem f74m (N : Nat) (v0 : Int) : f74i N f74c0 .n (f74s0 v0) (joinK (some f74lE) (finK tab f74sig Try.f74.results.toList)) = spec_l1Abs.Z0 N v0 (fun v2 => some ((), (v2, ()))) :=
  (f74t0 N v0 (finK tab f74sig Try.f74.results.toList)).trans (by kernel_rfl)
theorem f74ok (h : spec_l1Abs.Spec) : EntryOk Try.prog 74 e74 :=
  entry_of_code (sig := f74sig) (c := f74c0) (pl := .n) (je := (some f74lE)) (B := f74B) Try.func74 (by kernel_rfl) (by kernel_rfl) (by kernel_rfl) tabOk f74GOk (by kernel_rfl) (by kernel_rfl) (by kernel_rfl) (by kernel_rfl) fun X hb hp => by
    obtain ⟨v0, _⟩ := X
    obtain ⟨N, h⟩ := h v0
    exact ⟨N, (f74m N v0).trans (h N (Nat.le_refl N))⟩
theorem e74ok : EntryOk Try.prog 74 e74 := f74ok spec_l1Abs.ok
end Go.Fw
set_option linter.unusedVariables false
set_option linter.unusedSimpArgs false
set_option maxRecDepth 100000
namespace Go.Fw
open Go.Proofs
/-! ### loop.example/g03115/spec.l1Gcd -/
noncomputable def f115sig : Sig := ⟨[⟨.int .i64, false, false⟩, ⟨.int .i64, false, false⟩], [⟨.int .i64, false, false⟩]⟩
noncomputable def e115 : Entry := ⟨f115sig, (some fun X => spec_l1Gcd.P X.1 X.2.1), fun X => ((), ((spec_l1Gcd.g X.1 X.2.1), ()))⟩
noncomputable def f115G : Nat → Option Entry := (fun _ => none)
theorem f115GOk : GOk Try.prog f115G := GOk.nil
noncomputable def f115lE : Clean := ⟨[], [], [], [], []⟩
noncomputable def f115s0 (v0 v1 : Int) : St := initSt f115sig.ps (v0, (v1, ()))
noncomputable def f115s1 (v0 v1 : Int) : St := stOf [(0, .c (.int .i64 v0)), (1, .c (.int .i64 v1))] [] []
noncomputable def f115l1 : Clean := ⟨[0, 1], [], [], [], []⟩
noncomputable def f115s2 (v0 : Int) : St := stOf [(0, .c (.int .i64 v0))] [] []
noncomputable def f115l2 : Clean := ⟨[0], [], [], [], []⟩
noncomputable def f115s3 (v4 : Int) : St := stOf [(4, .c (.int .i64 v4))] [] []
noncomputable def f115l3 : Clean := ⟨[4], [], [], [], []⟩
noncomputable def f115B : Nat → Option Clean := lookL [(0, f115l2), (1000000, f115l3)]
noncomputable abbrev f115i {ρ : Type} (N : Nat) (c : Code) (p : Plan) (σ : St) (K : KT ρ) : Option ρ := iCode f115G tab f115B N c p σ K
noncomputable def f115c1 := codeAt (bodyOf Try.f115) [0]
theorem f115t1 {ρ : Type} (N : Nat) (v0 v1 : Int) (K : KT ρ) : f115i N f115c1 .n (f115s0 v0 v1) (joinK (some f115l1) K) =
  spec_l1Gcd.Z1 N v0 v1 (fun v0 v1 => K .nrm (f115s1 v0 v1)) := by kernel_rfl
noncomputable def f115c5 := codeAt (bodyOf Try.f115) [1,0,0,0]
theorem f115t5 {ρ : Type} (N : Nat) (v0 v1 : Int) (K : KT ρ) : f115i N f115c5 .n (f115s1 v0 v1) (joinK (some f115l1) K) =
  spec_l1Gcd.Z5 N v0 v1 (fun v0 v1 => K .nrm (f115s1 v0 v1)) (fun v0 => K (.exit 0) (f115s2 v0)) := by kernel_rfl
noncomputable def f115c4 := codeAt (bodyOf Try.f115) [1,0,0]
noncomputable def f115p4 : Plan := .mk none (some f115l1) .n .n
noncomputable abbrev f115w4 {ρ : Type} (N M : Nat) (σ : St) (K : KT ρ) : Option ρ := loopC (fun σ K => f115i N f115c5 .n σ K) f115l1 M σ K
theorem f115t4L {ρ : Type} (N : Nat) (K : KT ρ) : ∀ (M : Nat) (v0 v1 : Int), f115w4 N M (f115s1 v0 v1) K =
  spec_l1Gcd.Z4L N (fun v0 => K (.exit 0) (f115s2 v0)) M v0 v1
  | 0, _, _ => rfl
  | M + 1, v0, v1 => viaRound (fun k => spec_l1Gcd.Z5 N v0 v1 k (fun v0 => K (.exit 0) (f115s2 v0))) (f115t5 N v0 v1 (seqK (fun σ => f115w4 N M σ K) K)) (funext fun v0 => funext fun v1 => f115t4L N K M v0 v1) (by kernel_rfl) (by kernel_rfl)
theorem f115t4 {ρ : Type} (N : Nat) (v0 v1 : Int) (K : KT ρ) : f115i N f115c4 f115p4 (f115s1 v0 v1) (joinK (some f115l2) K) =
  spec_l1Gcd.Z4 N v0 v1 (fun v0 => K (.exit 0) (f115s2 v0)) :=
  viaLoop (by kernel_rfl) (by kernel_rfl) (σ' := f115s1 v0 v1) (by kernel_rfl) (f115t4L N (joinK (some f115l2) K) N v0 v1) (by kernel_rfl)
noncomputable def f115c3 := codeAt (bodyOf Try.f115) [1,0]
noncomputable def f115p3 : Plan := .mk (some f115l2) none f115p4 .n
theorem f115t3 {ρ : Type} (N : Nat) (v0 v1 : Int) (K : KT ρ) : f115i N f115c3 f115p3 (f115s1 v0 v1) (joinK (some f115l2) K) =
  spec_l1Gcd.Z3 N v0 v1 (fun v0 => K .nrm (f115s2 v0)) :=
  viaBlock (by kernel_rfl) (by kernel_rfl) (f115t4 N v0 v1 (blockK 0 (joinK (some f115l2) K))) (by kernel_rfl)
noncomputable def f115c6 := codeAt (bodyOf Try.f115) [1,1]
theorem f115t6 {ρ : Type} (N : Nat) (v0 : Int) (K : KT ρ) : f115i N f115c6 .n (f115s2 v0) (joinK (some f115lE) K) =
  spec_l1Gcd.Z6 N v0 (fun v4 => K .ret (f115s3 v4)) := by kernel_rfl
noncomputable def f115c2 := codeAt (bodyOf Try.f115) [1]
noncomputable def f115p2 : Plan := .mk (some f115l2) none f115p3 .n
theorem f115t2 {ρ : Type} (N : Nat) (v0 v1 : Int) (K : KT ρ) : f115i N f115c2 f115p2 (f115s1 v0 v1) (joinK (some f115lE) K) =
  spec_l1Gcd.Z2 N v0 v1 (fun v4 => K .ret (f115s3 v4)) :=
  viaSeq (fun k => spec_l1Gcd.Z3 N v0 v1 k) (by kernel_rfl) (by kernel_rfl) (f115t3 N v0 v1 (seqK (fun σ => f115i N f115c6 .n σ (joinK (some f115lE) K)) (joinK (some f115lE) K))) (funext fun v0 => f115t6 N v0 K) (by kernel_rfl) (by kernel_rfl)
noncomputable def f115c0 := codeAt (bodyOf Try.f115) []
noncomputable def f115p0 : Plan := .mk (some f115l1) none .n f115p2
theorem f115t0 {ρ : Type} (N : Nat) (v0 v1 : Int) (K : KT ρ) : f115i N f115c0 f115p0 (f115s0 v0 v1) (joinK (some f115lE) K) =
  spec_l1Gcd.Z0 N v0 v1 (fun v4 => K .ret (f115s3 v4)) :=
  viaSeq (fun k => spec_l1Gcd.Z1 N v0 v1 k) (by kernel_rfl) (by kernel_rfl) (f115t1 N v0 v1 (seqK (fun σ => f115i N f115c2 f115p2 σ (joinK (some f115lE) K)) (joinK (some f115lE) K))) (funext fun v0 => funext fun v1 => f115t2 N v0 v1 K) (by kernel_rfl) (by kernel_rfl)
theorem f115m (N : Nat) (v0 v1 : Int) : f115i N f115c0 f115p0 (f115s0 v0 v1) (joinK (some f115lE) (finK tab f115sig Try.f115.results.toList)) = spec_l1Gcd.Z0 N v0 v1 (fun v4 => some ((), (v4, ()))) :=
  (f115t0 N v0 v1 (finK tab f115sig Try.f115.results.toList)).trans (by kernel_rfl)
theorem f115ok (h : spec_l1Gcd.Spec) : EntryOk Try.prog 115 e115 :=
  entry_of_code (sig := f115sig) (c := f115c0) (pl := f115p0) (je := (some f115lE)) (B := f115B) Try.func115 (by kernel_rfl) (by kernel_rfl) (by kernel_rfl) tabOk f115GOk (by kernel_rfl) (by kernel_rfl) (by kernel_rfl) (by kernel_rfl) fun X hb hp => by
    obtain ⟨v0, v1, _⟩ := X
    obtain ⟨N, h⟩ := h v0 v1 hp
    exact ⟨N, (f115m N v0 v1).trans (h N (Nat.le_refl N))⟩
theorem e115ok : EntryOk Try.prog 115 e115 := f115ok spec_l1Gcd.ok
end Go.Fw
set_option linter.unusedVariables false
set_option linter.unusedSimpArgs false
set_option maxRecDepth 100000
namespace Go.Fw
open Go.Proofs
/-! ### loop.example/g03115/spec.l1Factors -/
noncomputable def f99sig : Sig := ⟨[⟨.pair (.int .i64) (.pair (.int .i64) (.sl 3 (.int .i64))), true, false⟩], [⟨.sl 3 (.int .i64), false, false⟩, ⟨.bool, false, false⟩]⟩
noncomputable def e99 : Entry := ⟨f99sig, (some fun X => spec_l1Factors.P X.1), fun X => ((), ((spec_l1Factors.g X.1).1, ((spec_l1Factors.g X.1).2, ())))⟩
noncomputable def f99G : Nat → Option Entry := addG (addG (addG (addG (fun _ => none) 74 e74) 75 e75) 114 e114) 115 e115
theorem f99GOk : GOk Try.prog f99G := ((((GOk.nil).add e74ok (by kernel_rfl)).add e75ok (by kernel_rfl)).add e114ok (by kernel_rfl)).add e115ok (by kernel_rfl)
noncomputable def f99lE : Clean := ⟨[], [], [], [], []⟩
noncomputable def f99s0 (v0 : Int × Int × List Int) : St := initSt f99sig.ps (v0, ())
noncomputable def f99s1 (v1_0 v1_1 : Int) (v1_2 : List Int) : St := stOf [(1, .c (.box 1 0))] [(1, (26, [.int .i64 v1_0, .int .i64 v1_1, .sn 3 (.int .i64) v1_2 none]))] []
noncomputable def f99l1 : Clean := ⟨[1], [1], [], [], []⟩
noncomputable def f99s2 (v4 : List Int) (v1_0 v1_1 : Int) (v1_2 : List Int) : St := stOf [(1, .c (.box 1 0)), (4, .c (.own 1000256))] [(1, (26, [.int .i64 v1_0, .int .i64 v1_1, .sn 3 (.int .i64) v1_2 none]))] [(1000256, (⟨3, .int .i64, v4, true, false⟩ : Row))]
noncomputable def f99l2 : Clean := ⟨[1, 4], [1], [], [], [(⟨false, 4, 0⟩, 1000256)]⟩
noncomputable def f99s3 (v4 : List Int) (v5 v1_0 v1_1 : Int) (v1_2 : List Int) : St := stOf [(1, .c (.box 1 0)), (4, .c (.own 1000256)), (5, .c (.int .i64 v5))] [(1, (26, [.int .i64 v1_0, .int .i64 v1_1, .sn 3 (.int .i64) v1_2 none]))] [(1000256, (⟨3, .int .i64, v4, true, false⟩ : Row))]
noncomputable def f99l3 : Clean := ⟨[1, 4, 5], [1], [], [], [(⟨false, 4, 0⟩, 1000256)]⟩
noncomputable def f99s4 (v4 v6 v7 : List Int) (v5 v1_0 v1_1 : Int) (v1_2 : List Int) : St := stOf [(1, .c (.box 1 0)), (4, .c (.own 1000256)), (5, .c (.int .i64 v5)), (6, .c (.own 1000384)), (7, .c (.own 1000448))] [(1, (26, [.int .i64 v1_0, .int .i64 v1_1, .sn 3 (.int .i64) v1_2 none]))] [(1000256, (⟨3, .int .i64, v4, true, false⟩ : Row)), (1000384, (⟨3, .int .i64, v6, true, false⟩ : Row)), (1000448, (⟨3, .int .i64, v7, true, false⟩ : Row))]
noncomputable def f99l4 : Clean := ⟨[1, 4, 5, 6, 7], [1], [], [], [(⟨false, 4, 0⟩, 1000256), (⟨false, 6, 0⟩, 1000384), (⟨false, 7, 0⟩, 1000448)]⟩
noncomputable def f99s5 (v4 v6 v7 : List Int) (v5 v8 : Int) (v1_0 v1_1 : Int) (v1_2 : List Int) : St := stOf [(1, .c (.box 1 0)), (4, .c (.own 1000256)), (5, .c (.int .i64 v5)), (6, .c (.own 1000384)), (7, .c (.own 1000448)), (8, .c (.int .i64 v8))] [(1, (26, [.int .i64 v1_0, .int .i64 v1_1, .sn 3 (.int .i64) v1_2 none]))] [(1000256, (⟨3, .int .i64, v4, true, false⟩ : Row)), (1000384, (⟨3, .int .i64, v6, true, false⟩ : Row)), (1000448, (⟨3, .int .i64, v7, true, false⟩ : Row))]
noncomputable def f99l5 : Clean := ⟨[1, 4, 5, 6, 7, 8], [1], [], [], [(⟨false, 4, 0⟩, 1000256), (⟨false, 6, 0⟩, 1000384), (⟨false, 7, 0⟩, 1000448)]⟩
noncomputable def f99s6 (v4 v6 v7 : List Int) (v5 v9 : Int) (v1_0 v1_1 : Int) (v1_2 : List Int) : St := stOf [(1, .c (.box 1 0)), (4, .c (.own 1000256)), (5, .c (.int .i64 v5)), (6, .c (.own 1000384)), (7, .c (.own 1000448)), (9, .c (.int .i64 v9))] [(1, (26, [.int .i64 v1_0, .int .i64 v1_1, .sn 3 (.int .i64) v1_2 none]))] [(1000256, (⟨3, .int .i64, v4, true, false⟩ : Row)), (1000384, (⟨3, .int .i64, v6, true, false⟩ : Row)), (1000448, (⟨3, .int .i64, v7, true, false⟩ : Row))]
noncomputable def f99l6 : Clean := ⟨[1, 4, 5, 6, 7, 9], [1], [], [], [(⟨false, 4, 0⟩, 1000256), (⟨false, 6, 0⟩, 1000384), (⟨false, 7, 0⟩, 1000448)]⟩
noncomputable def f99s7 (v4 v6 v7 : List Int) (v5 v9 : Int) (v10 v1_0 v1_1 : Int) (v1_2 : List Int) : St := stOf [(1, .c (.box 1 0)), (4, .c (.own 1000256)), (5, .c (.int .i64 v5)), (6, .c (.own 1000384)), (7, .c (.own 1000448)), (9, .c (.int .i64 v9)), (10, .c (.int .i64 v10))] [(1, (26, [.int .i64 v1_0, .int .i64 v1_1, .sn 3 (.int .i64) v1_2 none]))] [(1000256, (⟨3, .int .i64, v4, true, false⟩ : Row)), (1000384, (⟨3, .int .i64, v6, true, false⟩ : Row)), (1000448, (⟨3, .int .i64, v7, true, false⟩ : Row))]
noncomputable def f99l7 : Clean := ⟨[1, 4, 5, 6, 7, 9, 10], [1], [], [], [(⟨false, 4, 0⟩, 1000256), (⟨false, 6, 0⟩, 1000384), (⟨false, 7, 0⟩, 1000448)]⟩
noncomputable def f99s8 (v4 v6 : List Int) (v5 v9 : Int) (v1_0 v1_1 : Int) (v1_2 : List Int) : St := stOf [(1, .c (.box 1 0)), (4, .c (.own 1000256)), (5, .c (.int .i64 v5)), (6, .c (.own 1000384)), (9, .c (.int .i64 v9))] [(1, (26, [.int .i64 v1_0, .int .i64 v1_1, .sn 3 (.int .i64) v1_2 none]))] [(1000256, (⟨3, .int .i64, v4, true, false⟩ : Row)), (1000384, (⟨3, .int .i64, v6, true, false⟩ : Row))]
noncomputable def f99l8 : Clean := ⟨[1, 4, 5, 6, 9], [1], [], [], [(⟨false, 4, 0⟩, 1000256), (⟨false, 6, 0⟩, 1000384)]⟩
noncomputable def f99s9 (v4 v6 : List Int) (v5 v9 : Int) (v11 v1_0 v1_1 : Int) (v1_2 : List Int) : St := stOf [(1, .c (.box 1 0)), (4, .c (.own 1000256)), (5, .c (.int .i64 v5)), (6, .c (.own 1000384)), (9, .c (.int .i64 v9)), (11, .c (.int .i64 v11))] [(1, (26, [.int .i64 v1_0, .int .i64 v1_1, .sn 3 (.int .i64) v1_2 none]))] [(1000256, (⟨3, .int .i64, v4, true, false⟩ : Row)), (1000384, (⟨3, .int .i64, v6, true, false⟩ : Row))]
noncomputable def f99l9 : Clean := ⟨[1, 4, 5, 6, 9, 11], [1], [], [], [(⟨false, 4, 0⟩, 1000256), (⟨false, 6, 0⟩, 1000384)]⟩
noncomputable def f99s10 (v4 : List Int) (v12 v1_0 v1_1 : Int) (v1_2 : List Int) : St := stOf [(1, .c (.box 1 0)), (4, .c (.own 1000256)), (12, .c (.int .i64 v12))] [(1, (26, [.int .i64 v1_0, .int .i64 v1_1, .sn 3 (.int .i64) v1_2 none]))] [(1000256, (⟨3, .int .i64, v4, true, false⟩ : Row))]
noncomputable def f99l10 : Clean := ⟨[1, 4, 12], [1], [], [], [(⟨false, 4, 0⟩, 1000256)]⟩
noncomputable def f99s11 (v4 : List Int) (v12 v13 : Int) (v1_0 v1_1 : Int) (v1_2 : List Int) : St := stOf [(1, .c (.box 1 0)), (4, .c (.own 1000256)), (12, .c (.int .i64 v12)), (13, .c (.int .i64 v13))] [(1, (26, [.int .i64 v1_0, .int .i64 v1_1, .sn 3 (.int .i64) v1_2 none]))] [(1000256, (⟨3, .int .i64, v4, true, false⟩ : Row))]
noncomputable def f99l11 : Clean := ⟨[1, 4, 12, 13], [1], [], [], [(⟨false, 4, 0⟩, 1000256)]⟩
noncomputable def f99s12 (v4 : List Int) : St := stOf [(4, .c (.own 1000256))] [] [(1000256, (⟨3, .int .i64, v4, true, false⟩ : Row))]
noncomputable def f99l12 : Clean := ⟨[4], [], [], [], [(⟨false, 4, 0⟩, 1000256)]⟩
noncomputable def f99s13 (v2 : List Int) (v3 : Bool) : St := stOf [(2, .c (.own 1000128)), (3, .c (.bool v3))] [] [(1000128, (⟨3, .int .i64, v2, true, false⟩ : Row))]
noncomputable def f99l13 : Clean := ⟨[2, 3], [], [⟨⟨false, 2, 0⟩, 30000000, 3, .int .i64, true⟩], [], [(⟨false, 2, 0⟩, 1000128)]⟩
noncomputable def f99B : Nat → Option Clean := lookL [(2, f99l4), (4, f99l8), (6, f99l3), (1, f99l3), (0, f99l2), (10, f99l10), (9, f99l10), (8, f99l12), (1000000, f99l13)]
noncomputable abbrev f99i {ρ : Type} (N : Nat) (c : Code) (p : Plan) (σ : St) (K : KT ρ) : Option ρ := iCode f99G tab f99B N c p σ K
noncomputable def f99c1 := codeAt (bodyOf Try.f99) [0]
theorem f99t1 {ρ : Type} (N : Nat) (v0 : Int × Int × List Int) (K : KT ρ) : f99i N f99c1 .n (f99s0 v0) (joinK (some f99l1) K) =
  spec_l1Factors.Z1 N v0 (fun v1_0 v1_1 v1_2 => K .nrm (f99s1 v1_0 v1_1 v1_2)) := by kernel_rfl
noncomputable def f99c3 := codeAt (bodyOf Try.f99) [1,0]
theorem f99t3 {ρ : Type} (N : Nat) (v1_0 v1_1 : Int) (v1_2 : List Int) (K : KT ρ) : f99i N f99c3 .n (f99s1 v1_0 v1_1 v1_2) (joinK (some f99l2) K) =
  spec_l1Factors.Z3 N v1_0 v1_1 v1_2 (fun v4 v1_0 v1_1 v1_2 => K .nrm (f99s2 v4 v1_0 v1_1 v1_2)) := by kernel_rfl
noncomputable def f99c6 := codeAt (bodyOf Try.f99) [1,1,0,0]
theorem f99t6 {ρ : Type} (N : Nat) (v4 : List Int) (v1_0 v1_1 : Int) (v1_2 : List Int) (K : KT ρ) : f99i N f99c6 .n (f99s2 v4 v1_0 v1_1 v1_2) (joinK (some f99l3) K) =
  spec_l1Factors.Z6 N v4 v1_0 v1_1 v1_2 (fun v4 v5 v1_0 v1_1 v1_2 => K .nrm (f99s3 v4 v5 v1_0 v1_1 v1_2)) := by kernel_rfl
noncomputable def f99c10 := codeAt (bodyOf Try.f99) [1,1,0,1,0,0,0]
theorem f99t10 {ρ : Type} (N : Nat) (v4 : List Int) (v5 v1_0 v1_1 : Int) (v1_2 : List Int) (K : KT ρ) : f99i N f99c10 .n (f99s3 v4 v5 v1_0 v1_1 v1_2) (joinK (some f99l3) K) =
  spec_l1Factors.Z10 N v4 v5 v1_0 v1_1 v1_2 (fun v4 v5 v1_0 v1_1 v1_2 => K .nrm (f99s3 v4 v5 v1_0 v1_1 v1_2)) (fun v4 v1_0 v1_1 v1_2 => K (.exit 0) (f99s2 v4 v1_0 v1_1 v1_2)) := by kernel_rfl
noncomputable def f99c14 := codeAt (bodyOf Try.f99) [1,1,0,1,0,0,1,0,0,0]
theorem f99t14 {ρ : Type} (N : Nat) (v4 : List Int) (v5 v1_0 v1_1 : Int) (v1_2 : List Int) (K : KT ρ) : f99i N f99c14 .n (f99s3 v4 v5 v1_0 v1_1 v1_2) (joinK (some f99l3) K) =
  spec_l1Factors.Z14 N v4 v5 v1_0 v1_1 v1_2 (fun v4 v5 v1_0 v1_1 v1_2 => K .nrm (f99s3 v4 v5 v1_0 v1_1 v1_2)) (fun v4 v5 v1_0 v1_1 v1_2 => K (.exit 1) (f99s3 v4 v5 v1_0 v1_1 v1_2)) := by kernel_rfl
noncomputable def f99c16 := codeAt (bodyOf Try.f99) [1,1,0,1,0,0,1,0,0,1,0]
theorem f99t16 {ρ : Type} (N : Nat) (v4 : List Int) (v5 v1_0 v1_1 : Int) (v1_2 : List Int) (K : KT ρ) : f99i N f99c16 .n (f99s3 v4 v5 v1_0 v1_1 v1_2) (joinK (some f99l4) K) =
  spec_l1Factors.Z16 N v4 v5 v1_0 v1_1 v1_2 (fun v4 v6 v7 v5 v1_0 v1_1 v1_2 => K .nrm (f99s4 v4 v6 v7 v5 v1_0 v1_1 v1_2)) := by kernel_rfl
noncomputable def f99c18 := codeAt (bodyOf Try.f99) [1,1,0,1,0,0,1,0,0,1,1,0]
theorem f99t18 {ρ : Type} (N : Nat) (v4 v6 v7 : List Int) (v5 v1_0 v1_1 : Int) (v1_2 : List Int) (K : KT ρ) : f99i N f99c18 .n (f99s4 v4 v6 v7 v5 v1_0 v1_1 v1_2) (joinK (some f99l4) K) =
  spec_l1Factors.Z18 N v4 v6 v7 v5 v1_0 v1_1 v1_2 (fun v4 v6 v7 v5 v1_0 v1_1 v1_2 => K .nrm (f99s4 v4 v6 v7 v5 v1_0 v1_1 v1_2)) := by kernel_rfl
noncomputable def f99c21 := codeAt (bodyOf Try.f99) [1,1,0,1,0,0,1,0,0,1,1,1,0,0]
theorem f99t21 {ρ : Type} (N : Nat) (v4 v6 v7 : List Int) (v5 v1_0 v1_1 : Int) (v1_2 : List Int) (K : KT ρ) : f99i N f99c21 .n (f99s4 v4 v6 v7 v5 v1_0 v1_1 v1_2) (joinK (some f99l5) K) =
  spec_l1Factors.Z21 N v4 v6 v7 v5 v1_0 v1_1 v1_2 (fun v4 v6 v7 v5 v8 v1_0 v1_1 v1_2 => K .nrm (f99s5 v4 v6 v7 v5 v8 v1_0 v1_1 v1_2)) := by kernel_rfl
noncomputable def f99c24 := codeAt (bodyOf Try.f99) [1,1,0,1,0,0,1,0,0,1,1,1,0,1,0,0]
theorem f99t24 {ρ : Type} (N : Nat) (v4 v6 v7 : List Int) (v5 v8 : Int) (v1_0 v1_1 : Int) (v1_2 : List Int) (K : KT ρ) : f99i N f99c24 .n (f99s5 v4 v6 v7 v5 v8 v1_0 v1_1 v1_2) (joinK (some f99l5) K) =
  spec_l1Factors.Z24 N v4 v6 v7 v5 v8 v1_0 v1_1 v1_2 (fun v4 v6 v7 v5 v8 v1_0 v1_1 v1_2 => K .nrm (f99s5 v4 v6 v7 v5 v8 v1_0 v1_1 v1_2)) (fun v4 v6 v7 v5 v1_0 v1_1 v1_2 => K (.exit 2) (f99s4 v4 v6 v7 v5 v1_0 v1_1 v1_2)) := by kernel_rfl
noncomputable def f99c23 := codeAt (bodyOf Try.f99) [1,1,0,1,0,0,1,0,0,1,1,1,0,1,0]
noncomputable def f99p23 : Plan := .mk none (some f99l5) .n .n
noncomputable abbrev f99w23 {ρ : Type} (N M : Nat) (σ : St) (K : KT ρ) : Option ρ := loopC (fun σ K => f99i N f99c24 .n σ K) f99l5 M σ K
theorem f99t23L {ρ : Type} (N : Nat) (K : KT ρ) : ∀ (M : Nat) (v4 v6 v7 : List Int) (v5 v8 : Int) (v1_0 v1_1 : Int) (v1_2 : List Int), f99w23 N M (f99s5 v4 v6 v7 v5 v8 v1_0 v1_1 v1_2) K =
  spec_l1Factors.Z23L N (fun v4 v6 v7 v5 v1_0 v1_1 v1_2 => K (.exit 2) (f99s4 v4 v6 v7 v5 v1_0 v1_1 v1_2)) M v4 v6 v7 v5 v8 v1_0 v1_1 v1_2
  | 0, _, _, _, _, _, _, _, _ => rfl
  | M + 1, v4, v6, v7, v5, v8, v1_0, v1_1, v1_2 => viaRound (fun k => spec_l1Factors.Z24 N v4 v6 v7 v5 v8 v1_0 v1_1 v1_2 k (fun v4 v6 v7 v5 v1_0 v1_1 v1_2 => K (.exit 2) (f99s4 v4 v6 v7 v5 v1_0 v1_1 v1_2))) (f99t24 N v4 v6 v7 v5 v8 v1_0 v1_1 v1_2 (seqK (fun σ => f99w23 N M σ K) K)) (funext fun v4 => funext fun v6 => funext fun v7 => funext fun v5 => funext fun v8 => funext fun v1_0 => funext fun v1_1 => funext fun v1_2 => f99t23L N K M v4 v6 v7 v5 v8 v1_0 v1_1 v1_2) (by kernel_rfl) (by kernel_rfl)
theorem f99t23 {ρ : Type} (N : Nat) (v4 v6 v7 : List Int) (v5 v8 : Int) (v1_0 v1_1 : Int) (v1_2 : List Int) (K : KT ρ) : f99i N f99c23 f99p23 (f99s5 v4 v6 v7 v5 v8 v1_0 v1_1 v1_2) (joinK (some f99l4) K) =
  spec_l1Factors.Z23 N v4 v6 v7 v5 v8 v1_0 v1_1 v1_2 (fun v4 v6 v7 v5 v1_0 v1_1 v1_2 => K (.exit 2) (f99s4 v4 v6 v7 v5 v1_0 v1_1 v1_2)) :=
  viaLoop (by kernel_rfl) (by kernel_rfl) (σ' := f99s5 v4 v6 v7 v5 v8 v1_0 v1_1 v1_2) (by kernel_rfl) (f99t23L N (joinK (some f99l4) K) N v4 v6 v7 v5 v8 v1_0 v1_1 v1_2) (by kernel_rfl)
noncomputable def f99c22 := codeAt (bodyOf Try.f99) [1,1,0,1,0,0,1,0,0,1,1,1,0,1]
noncomputable def f99p22 : Plan := .mk (some f99l4) none f99p23 .n
theorem f99t22 {ρ : Type} (N : Nat) (v4 v6 v7 : List Int) (v5 v8 : Int) (v1_0 v1_1 : Int) (v1_2 : List Int) (K : KT ρ) : f99i N f99c22 f99p22 (f99s5 v4 v6 v7 v5 v8 v1_0 v1_1 v1_2) (joinK (some f99l4) K) =
  spec_l1Factors.Z22 N v4 v6 v7 v5 v8 v1_0 v1_1 v1_2 (fun v4 v6 v7 v5 v1_0 v1_1 v1_2 => K .nrm (f99s4 v4 v6 v7 v5 v1_0 v1_1 v1_2)) :=
  viaBlock (by kernel_rfl) (by kernel_rfl) (f99t23 N v4 v6 v7 v5 v8 v1_0 v1_1 v1_2 (blockK 2 (joinK (some f99l4) K))) (by kernel_rfl)
noncomputable def f99c20 := codeAt (bodyOf Try.f99) [1,1,0,1,0,0,1,0,0,1,1,1,0]
noncomputable def f99p20 : Plan := .mk (some f99l5) none .n f99p22
theorem f99t20 {ρ : Type} (N : Nat) (v4 v6 v7 : List Int) (v5 v1_0 v1_1 : Int) (v1_2 : List Int) (K : KT ρ) : f99i N f99c20 f99p20 (f99s4 v4 v6 v7 v5 v1_0 v1_1 v1_2) (joinK (some f99l4) K) =
  spec_l1Factors.Z20 N v4 v6 v7 v5 v1_0 v1_1 v1_2 (fun v4 v6 v7 v5 v1_0 v1_1 v1_2 => K .nrm (f99s4 v4 v6 v7 v5 v1_0 v1_1 v1_2)) :=
  viaSeq (fun k => spec_l1Factors.Z21 N v4 v6 v7 v5 v1_0 v1_1 v1_2 k) (by kernel_rfl) (by kernel_rfl) (f99t21 N v4 v6 v7 v5 v1_0 v1_1 v1_2 (seqK (fun σ => f99i N f99c22 f99p22 σ (joinK (some f99l4) K)) (joinK (some f99l4) K))) (funext fun v4 => funext fun v6 => funext fun v7 => funext fun v5 => funext fun v8 => funext fun v1_0 => funext fun v1_1 => funext fun v1_2 => f99t22 N v4 v6 v7 v5 v8 v1_0 v1_1 v1_2 K) (by kernel_rfl) (by kernel_rfl)
noncomputable def f99c26 := codeAt (bodyOf Try.f99) [1,1,0,1,0,0,1,0,0,1,1,1,1,0]
theorem f99t26 {ρ : Type} (N : Nat) (v4 v6 v7 : List Int) (v5 v1_0 v1_1 : Int) (v1_2 : List Int) (K : KT ρ) : f99i N f99c26 .n (f99s4 v4 v6 v7 v5 v1_0 v1_1 v1_2) (joinK (some f99l6) K) =
  spec_l1Factors.Z26 N v4 v6 v7 v5 v1_0 v1_1 v1_2 (fun v4 v6 v7 v5 v9 v1_0 v1_1 v1_2 => K .nrm (f99s6 v4 v6 v7 v5 v9 v1_0 v1_1 v1_2)) := by kernel_rfl
noncomputable def f99c29 := codeAt (bodyOf Try.f99) [1,1,0,1,0,0,1,0,0,1,1,1,1,1,0,0]
theorem f99t29 {ρ : Type} (N : Nat) (v4 v6 v7 : List Int) (v5 v9 : Int) (v1_0 v1_1 : Int) (v1_2 : List Int) (K : KT ρ) : f99i N f99c29 .n (f99s6 v4 v6 v7 v5 v9 v1_0 v1_1 v1_2) (joinK (some f99l7) K) =
  spec_l1Factors.Z29 N v4 v6 v7 v5 v9 v1_0 v1_1 v1_2 (fun v4 v6 v7 v5 v9 v10 v1_0 v1_1 v1_2 => K .nrm (f99s7 v4 v6 v7 v5 v9 v10 v1_0 v1_1 v1_2)) := by kernel_rfl
noncomputable def f99c32 := codeAt (bodyOf Try.f99) [1,1,0,1,0,0,1,0,0,1,1,1,1,1,0,1,0,0]
theorem f99t32 {ρ : Type} (N : Nat) (v4 v6 v7 : List Int) (v5 v9 : Int) (v10 v1_0 v1_1 : Int) (v1_2 : List Int) (K : KT ρ) : f99i N f99c32 .n (f99s7 v4 v6 v7 v5 v9 v10 v1_0 v1_1 v1_2) (joinK (some f99l7) K) =
  spec_l1Factors.Z32 N v4 v6 v7 v5 v9 v10 v1_0 v1_1 v1_2 (fun v4 v6 v7 v5 v9 v10 v1_0 v1_1 v1_2 => K .nrm (f99s7 v4 v6 v7 v5 v9 v10 v1_0 v1_1 v1_2)) (fun v4 v6 v5 v9 v1_0 v1_1 v1_2 => K (.exit 4) (f99s8 v4 v6 v5 v9 v1_0 v1_1 v1_2)) := by kernel_rfl
noncomputable def f99c31 := codeAt (bodyOf Try.f99) [1,1,0,1,0,0,1,0,0,1,1,1,1,1,0,1,0]
noncomputable def f99p31 : Plan := .mk none (some f99l7) .n .n
noncomputable abbrev f99w31 {ρ : Type} (N M : Nat) (σ : St) (K : KT ρ) : Option ρ := loopC (fun σ K => f99i N f99c32 .n σ K) f99l7 M σ K
theorem f99t31L {ρ : Type} (N : Nat) (K : KT ρ) : ∀ (M : Nat) (v4 v6 v7 : List Int) (v5 v9 : Int) (v10 v1_0 v1_1 : Int) (v1_2 : List Int), f99w31 N M (f99s7 v4 v6 v7 v5 v9 v10 v1_0 v1_1 v1_2) K =
  spec_l1Factors.Z31L N (fun v4 v6 v5 v9 v1_0 v1_1 v1_2 => K (.exit 4) (f99s8 v4 v6 v5 v9 v1_0 v1_1 v1_2)) M v4 v6 v7 v5 v9 v10 v1_0 v1_1 v1_2
  | 0, _, _, _, _, _, _, _, _, _ => rfl
  | M + 1, v4, v6, v7, v5, v9, v10, v1_0, v1_1, v1_2 => viaRound (fun k => spec_l1Factors.Z32 N v4 v6 v7 v5 v9 v10 v1_0 v1_1 v1_2 k (fun v4 v6 v5 v9 v1_0 v1_1 v1_2 => K (.exit 4) (f99s8 v4 v6 v5 v9 v1_0 v1_1 v1_2))) (f99t32 N v4 v6 v7 v5 v9 v10 v1_0 v1_1 v1_2 (seqK (fun σ => f99w31 N M σ K) K)) (funext fun v4 => funext fun v6 => funext fun v7 => funext fun v5 => funext fun v9 => funext fun v10 => funext fun v1_0 => funext fun v1_1 => funext fun v1_2 => f99t31L N K M v4 v6 v7 v5 v9 v10 v1_0 v1_1 v1_2) (by kernel_rfl) (by kernel_rfl)
theorem f99t31 {ρ : Type} (N : Nat) (v4 v6 v7 : List Int) (v5 v9 : Int) (v10 v1_0 v1_1 : Int) (v1_2 : List Int) (K : KT ρ) : f99i N f99c31 f99p31 (f99s7 v4 v6 v7 v5 v9 v10 v1_0 v1_1 v1_2) (joinK (some f99l8) K) =
  spec_l1Factors.Z31 N v4 v6 v7 v5 v9 v10 v1_0 v1_1 v1_2 (fun v4 v6 v5 v9 v1_0 v1_1 v1_2 => K (.exit 4) (f99s8 v4 v6 v5 v9 v1_0 v1_1 v1_2)) :=
  viaLoop (by kernel_rfl) (by kernel_rfl) (σ' := f99s7 v4 v6 v7 v5 v9 v10 v1_0 v1_1 v1_2) (by kernel_rfl) (f99t31L N (joinK (some f99l8) K) N v4 v6 v7 v5 v9 v10 v1_0 v1_1 v1_2) (by kernel_rfl)
noncomputable def f99c30 := codeAt (bodyOf Try.f99) [1,1,0,1,0,0,1,0,0,1,1,1,1,1,0,1]
noncomputable def f99p30 : Plan := .mk (some f99l8) none f99p31 .n
theorem f99t30 {ρ : Type} (N : Nat) (v4 v6 v7 : List Int) (v5 v9 : Int) (v10 v1_0 v1_1 : Int) (v1_2 : List Int) (K : KT ρ) : f99i N f99c30 f99p30 (f99s7 v4 v6 v7 v5 v9 v10 v1_0 v1_1 v1_2) (joinK (some f99l8) K) =
  spec_l1Factors.Z30 N v4 v6 v7 v5 v9 v10 v1_0 v1_1 v1_2 (fun v4 v6 v5 v9 v1_0 v1_1 v1_2 => K .nrm (f99s8 v4 v6 v5 v9 v1_0 v1_1 v1_2)) :=
  viaBlock (by kernel_rfl) (by kernel_rfl) (f99t31 N v4 v6 v7 v5 v9 v10 v1_0 v1_1 v1_2 (blockK 4 (joinK (some f99l8) K))) (by kernel_rfl)
noncomputable def f99c28 := codeAt (bodyOf Try.f99) [1,1,0,1,0,0,1,0,0,1,1,1,1,1,0]
noncomputable def f99p28 : Plan := .mk (some f99l7) none .n f99p30
theorem f99t28 {ρ : Type} (N : Nat) (v4 v6 v7 : List Int) (v5 v9 : Int) (v1_0 v1_1 : Int) (v1_2 : List Int) (K : KT ρ) : f99i N f99c28 f99p28 (f99s6 v4 v6 v7 v5 v9 v1_0 v1_1 v1_2) (joinK (some f99l8) K) =
  spec_l1Factors.Z28 N v4 v6 v7 v5 v9 v1_0 v1_1 v1_2 (fun v4 v6 v5 v9 v1_0 v1_1 v1_2 => K .nrm (f99s8 v4 v6 v5 v9 v1_0 v1_1 v1_2)) :=
  viaSeq (fun k => spec_l1Factors.Z29 N v4 v6 v7 v5 v9 v1_0 v1_1 v1_2 k) (by kernel_rfl) (by kernel_rfl) (f99t29 N v4 v6 v7 v5 v9 v1_0 v1_1 v1_2 (seqK (fun σ => f99i N f99c30 f99p30 σ (joinK (some f99l8) K)) (joinK (some f99l8) K))) (funext fun v4 => funext fun v6 => funext fun v7 => funext fun v5 => funext fun v9 => funext fun v10 => funext fun v1_0 => funext fun v1_1 => funext fun v1_2 => f99t30 N v4 v6 v7 v5 v9 v10 v1_0 v1_1 v1_2 K) (by kernel_rfl) (by kernel_rfl)
noncomputable def f99c34 := codeAt (bodyOf Try.f99) [1,1,0,1,0,0,1,0,0,1,1,1,1,1,1,0]
theorem f99t34 {ρ : Type} (N : Nat) (v4 v6 : List Int) (v5 v9 : Int) (v1_0 v1_1 : Int) (v1_2 : List Int) (K : KT ρ) : f99i N f99c34 .n (f99s8 v4 v6 v5 v9 v1_0 v1_1 v1_2) (joinK (some f99l9) K) =
  spec_l1Factors.Z34 N v4 v6 v5 v9 v1_0 v1_1 v1_2 (fun v4 v6 v5 v9 v11 v1_0 v1_1 v1_2 => K .nrm (f99s9 v4 v6 v5 v9 v11 v1_0 v1_1 v1_2)) := by kernel_rfl
noncomputable def f99c37 := codeAt (bodyOf Try.f99) [1,1,0,1,0,0,1,0,0,1,1,1,1,1,1,1,0,0]
theorem f99t37 {ρ : Type} (N : Nat) (v4 v6 : List Int) (v5 v9 : Int) (v11 v1_0 v1_1 : Int) (v1_2 : List Int) (K : KT ρ) : f99i N f99c37 .n (f99s9 v4 v6 v5 v9 v11 v1_0 v1_1 v1_2) (joinK (some f99l9) K) =
  spec_l1Factors.Z37 N v4 v6 v5 v9 v11 v1_0 v1_1 v1_2 (fun v4 v6 v5 v9 v11 v1_0 v1_1 v1_2 => K .nrm (f99s9 v4 v6 v5 v9 v11 v1_0 v1_1 v1_2)) (fun v4 v5 v1_0 v1_1 v1_2 => K (.exit 6) (f99s3 v4 v5 v1_0 v1_1 v1_2)) := by kernel_rfl
noncomputable def f99c36 := codeAt (bodyOf Try.f99) [1,1,0,1,0,0,1,0,0,1,1,1,1,1,1,1,0]
noncomputable def f99p36 : Plan := .mk none (some f99l9) .n .n
noncomputable abbrev f99w36 {ρ : Type} (N M : Nat) (σ : St) (K : KT ρ) : Option ρ := loopC (fun σ K => f99i N f99c37 .n σ K) f99l9 M σ K
theorem f99t36L {ρ : Type} (N : Nat) (K : KT ρ) : ∀ (M : Nat) (v4 v6 : List Int) (v5 v9 : Int) (v11 v1_0 v1_1 : Int) (v1_2 : List Int), f99w36 N M (f99s9 v4 v6 v5 v9 v11 v1_0 v1_1 v1_2) K =
  spec_l1Factors.Z36L N (fun v4 v5 v1_0 v1_1 v1_2 => K (.exit 6) (f99s3 v4 v5 v1_0 v1_1 v1_2)) M v4 v6 v5 v9 v11 v1_0 v1_1 v1_2
  | 0, _, _, _, _, _, _, _, _ => rfl
  | M + 1, v4, v6, v5, v9, v11, v1_0, v1_1, v1_2 => viaRound (fun k => spec_l1Factors.Z37 N v4 v6 v5 v9 v11 v1_0 v1_1 v1_2 k (fun v4 v5 v1_0 v1_1 v1_2 => K (.exit 6) (f99s3 v4 v5 v1_0 v1_1 v1_2))) (f99t37 N v4 v6 v5 v9 v11 v1_0 v1_1 v1_2 (seqK (fun σ => f99w36 N M σ K) K)) (funext fun v4 => funext fun v6 => funext fun v5 => funext fun v9 => funext fun v11 => funext fun v1_0 => funext fun v1_1 => funext fun v1_2 => f99t36L N K M v4 v6 v5 v9 v11 v1_0 v1_1 v1_2) (by kernel_rfl) (by kernel_rfl)
theorem f99t36 {ρ : Type} (N : Nat) (v4 v6 : List Int) (v5 v9 : Int) (v11 v1_0 v1_1 : Int) (v1_2 : List Int) (K : KT ρ) : f99i N f99c36 f99p36 (f99s9 v4 v6 v5 v9 v11 v1_0 v1_1 v1_2) (joinK (some f99l3) K) =
  spec_l1Factors.Z36 N v4 v6 v5 v9 v11 v1_0 v1_1 v1_2 (fun v4 v5 v1_0 v1_1 v1_2 => K (.exit 6) (f99s3 v4 v5 v1_0 v1_1 v1_2)) :=
  viaLoop (by kernel_rfl) (by kernel_rfl) (σ' := f99s9 v4 v6 v5 v9 v11 v1_0 v1_1 v1_2) (by kernel_rfl) (f99t36L N (joinK (some f99l3) K) N v4 v6 v5 v9 v11 v1_0 v1_1 v1_2) (by kernel_rfl)
noncomputable def f99c35 := codeAt (bodyOf Try.f99) [1,1,0,1,0,0,1,0,0,1,1,1,1,1,1,1]
noncomputable def f99p35 : Plan := .mk (some f99l3) none f99p36 .n
theorem f99t35 {ρ : Type} (N : Nat) (v4 v6 : List Int) (v5 v9 : Int) (v11 v1_0 v1_1 : Int) (v1_2 : List Int) (K : KT ρ) : f99i N f99c35 f99p35 (f99s9 v4 v6 v5 v9 v11 v1_0 v1_1 v1_2) (joinK (some f99l3) K) =
  spec_l1Factors.Z35 N v4 v6 v5 v9 v11 v1_0 v1_1 v1_2 (fun v4 v5 v1_0 v1_1 v1_2 => K .nrm (f99s3 v4 v5 v1_0 v1_1 v1_2)) :=
  viaBlock (by kernel_rfl) (by kernel_rfl) (f99t36 N v4 v6 v5 v9 v11 v1_0 v1_1 v1_2 (blockK 6 (joinK (some f99l3) K))) (by kernel_rfl)
noncomputable def f99c33 := codeAt (bodyOf Try.f99) [1,1,0,1,0,0,1,0,0,1,1,1,1,1,1]
noncomputable def f99p33 : Plan := .mk (some f99l9) none .n f99p35
theorem f99t33 {ρ : Type} (N : Nat) (v4 v6 : List Int) (v5 v9 : Int) (v1_0 v1_1 : Int) (v1_2 : List Int) (K : KT ρ) : f99i N f99c33 f99p33 (f99s8 v4 v6 v5 v9 v1_0 v1_1 v1_2) (joinK (some f99l3) K) =
  spec_l1Factors.Z33 N v4 v6 v5 v9 v1_0 v1_1 v1_2 (fun v4 v5 v1_0 v1_1 v1_2 => K .nrm (f99s3 v4 v5 v1_0 v1_1 v1_2)) :=
  viaSeq (fun k => spec_l1Factors.Z34 N v4 v6 v5 v9 v1_0 v1_1 v1_2 k) (by kernel_rfl) (by kernel_rfl) (f99t34 N v4 v6 v5 v9 v1_0 v1_1 v1_2 (seqK (fun σ => f99i N f99c35 f99p35 σ (joinK (some f99l3) K)) (joinK (some f99l3) K))) (funext fun v4 => funext fun v6 => funext fun v5 => funext fun v9 => funext fun v11 => funext fun v1_0 => funext fun v1_1 => funext fun v1_2 => f99t35 N v4 v6 v5 v9 v11 v1_0 v1_1 v1_2 K) (by kernel_rfl) (by kernel_rfl)
noncomputable def f99c27 := codeAt (bodyOf Try.f99) [1,1,0,1,0,0,1,0,0,1,1,1,1,1]
noncomputable def f99p27 : Plan := .mk (some f99l8) none f99p28 f99p33
theorem f99t27 {ρ : Type} (N : Nat) (v4 v6 v7 : List Int) (v5 v9 : Int) (v1_0 v1_1 : Int) (v1_2 : List Int) (K : KT ρ) : f99i N f99c27 f99p27 (f99s6 v4 v6 v7 v5 v9 v1_0 v1_1 v1_2) (joinK (some f99l3) K) =
  spec_l1Factors.Z27 N v4 v6 v7 v5 v9 v1_0 v1_1 v1_2 (fun v4 v5 v1_0 v1_1 v1_2 => K .nrm (f99s3 v4 v5 v1_0 v1_1 v1_2)) :=
  viaSeq (fun k => spec_l1Factors.Z28 N v4 v6 v7 v5 v9 v1_0 v1_1 v1_2 k) (by kernel_rfl) (by kernel_rfl) (f99t28 N v4 v6 v7 v5 v9 v1_0 v1_1 v1_2 (seqK (fun σ => f99i N f99c33 f99p33 σ (joinK (some f99l3) K)) (joinK (some f99l3) K))) (funext fun v4 => funext fun v6 => funext fun v5 => funext fun v9 => funext fun v1_0 => funext fun v1_1 => funext fun v1_2 => f99t33 N v4 v6 v5 v9 v1_0 v1_1 v1_2 K) (by kernel_rfl) (by kernel_rfl)
noncomputable def f99c25 := codeAt (bodyOf Try.f99) [1,1,0,1,0,0,1,0,0,1,1,1,1]
noncomputable def f99p25 : Plan := .mk (some f99l6) none .n f99p27
theorem f99t25 {ρ : Type} (N : Nat) (v4 v6 v7 : List Int) (v5 v1_0 v1_1 : Int) (v1_2 : List Int) (K : KT ρ) : f99i N f99c25 f99p25 (f99s4 v4 v6 v7 v5 v1_0 v1_1 v1_2) (joinK (some f99l3) K) =
  spec_l1Factors.Z25 N v4 v6 v7 v5 v1_0 v1_1 v1_2 (fun v4 v5 v1_0 v1_1 v1_2 => K .nrm (f99s3 v4 v5 v1_0 v1_1 v1_2)) :=
  viaSeq (fun k => spec_l1Factors.Z26 N v4 v6 v7 v5 v1_0 v1_1 v1_2 k) (by kernel_rfl) (by kernel_rfl) (f99t26 N v4 v6 v7 v5 v1_0 v1_1 v1_2 (seqK (fun σ => f99i N f99c27 f99p27 σ (joinK (some f99l3) K)) (joinK (some f99l3) K))) (funext fun v4 => funext fun v6 => funext fun v7 => funext fun v5 => funext fun v9 => funext fun v1_0 => funext fun v1_1 => funext fun v1_2 => f99t27 N v4 v6 v7 v5 v9 v1_0 v1_1 v1_2 K) (by kernel_rfl) (by kernel_rfl)
noncomputable def f99c19 := codeAt (bodyOf Try.f99) [1,1,0,1,0,0,1,0,0,1,1,1]
noncomputable def f99p19 : Plan := .mk (some f99l4) none f99p20 f99p25
theorem f99t19 {ρ : Type} (N : Nat) (v4 v6 v7 : List Int) (v5 v1_0 v1_1 : Int) (v1_2 : List Int) (K : KT ρ) : f99i N f99c19 f99p19 (f99s4 v4 v6 v7 v5 v1_0 v1_1 v1_2) (joinK (some f99l3) K) =
  spec_l1Factors.Z19 N v4 v6 v7 v5 v1_0 v1_1 v1_2 (fun v4 v5 v1_0 v1_1 v1_2 => K .nrm (f99s3 v4 v5 v1_0 v1_1 v1_2)) :=
  viaSeq (fun k => spec_l1Factors.Z20 N v4 v6 v7 v5 v1_0 v1_1 v1_2 k) (by kernel_rfl) (by kernel_rfl) (f99t20 N v4 v6 v7 v5 v1_0 v1_1 v1_2 (seqK (fun σ => f99i N f99c25 f99p25 σ (joinK (some f99l3) K)) (joinK (some f99l3) K))) (funext fun v4 => funext fun v6 => funext fun v7 => funext fun v5 => funext fun v1_0 => funext fun v1_1 => funext fun v1_2 => f99t25 N v4 v6 v7 v5 v1_0 v1_1 v1_2 K) (by kernel_rfl) (by kernel_rfl)
noncomputable def f99c17 := codeAt (bodyOf Try.f99) [1,1,0,1,0,0,1,0,0,1,1]
noncomputable def f99p17 : Plan := .mk (some f99l4) none .n f99p19
theorem f99t17 {ρ : Type} (N : Nat) (v4 v6 v7 : List Int) (v5 v1_0 v1_1 : Int) (v1_2 : List Int) (K : KT ρ) : f99i N f99c17 f99p17 (f99s4 v4 v6 v7 v5 v1_0 v1_1 v1_2) (joinK (some f99l3) K) =
  spec_l1Factors.Z17 N v4 v6 v7 v5 v1_0 v1_1 v1_2 (fun v4 v5 v1_0 v1_1 v1_2 => K .nrm (f99s3 v4 v5 v1_0 v1_1 v1_2)) :=
  viaSeq (fun k => spec_l1Factors.Z18 N v4 v6 v7 v5 v1_0 v1_1 v1_2 k) (by kernel_rfl) (by kernel_rfl) (f99t18 N v4 v6 v7 v5 v1_0 v1_1 v1_2 (seqK (fun σ => f99i N f99c19 f99p19 σ (joinK (some f99l3) K)) (joinK (some f99l3) K))) (funext fun v4 => funext fun v6 => funext fun v7 => funext fun v5 => funext fun v1_0 => funext fun v1_1 => funext fun v1_2 => f99t19 N v4 v6 v7 v5 v1_0 v1_1 v1_2 K) (by kernel_rfl) (by kernel_rfl)
noncomputable def f99c15 := codeAt (bodyOf Try.f99) [1,1,0,1,0,0,1,0,0,1]
noncomputable def f99p15 : Plan := .mk (some f99l4) none .n f99p17
theorem f99t15 {ρ : Type} (N : Nat) (v4 : List Int) (v5 v1_0 v1_1 : Int) (v1_2 : List Int) (K : KT ρ) : f99i N f99c15 f99p15 (f99s3 v4 v5 v1_0 v1_1 v1_2) (joinK (some f99l3) K) =
  spec_l1Factors.Z15 N v4 v5 v1_0 v1_1 v1_2 (fun v4 v5 v1_0 v1_1 v1_2 => K .nrm (f99s3 v4 v5 v1_0 v1_1 v1_2)) :=
  viaSeq (fun k => spec_l1Factors.Z16 N v4 v5 v1_0 v1_1 v1_2 k) (by kernel_rfl) (by kernel_rfl) (f99t16 N v4 v5 v1_0 v1_1 v1_2 (seqK (fun σ => f99i N f99c17 f99p17 σ (joinK (some f99l3) K)) (joinK (some f99l3) K))) (funext fun v4 => funext fun v6 => funext fun v7 => funext fun v5 => funext fun v1_0 => funext fun v1_1 => funext fun v1_2 => f99t17 N v4 v6 v7 v5 v1_0 v1_1 v1_2 K) (by kernel_rfl) (by kernel_rfl)
noncomputable def f99c13 := codeAt (bodyOf Try.f99) [1,1,0,1,0,0,1,0,0]
noncomputable def f99p13 : Plan := .mk (some f99l3) none .n f99p15
theorem f99t13 {ρ : Type} (N : Nat) (v4 : List Int) (v5 v1_0 v1_1 : Int) (v1_2 : List Int) (K : KT ρ) : f99i N f99c13 f99p13 (f99s3 v4 v5 v1_0 v1_1 v1_2) (joinK (some f99l3) K) =
  spec_l1Factors.Z13 N v4 v5 v1_0 v1_1 v1_2 (fun v4 v5 v1_0 v1_1 v1_2 => K .nrm (f99s3 v4 v5 v1_0 v1_1 v1_2)) (fun v4 v5 v1_0 v1_1 v1_2 => K (.exit 1) (f99s3 v4 v5 v1_0 v1_1 v1_2)) :=
  viaSeq (fun k => spec_l1Factors.Z14 N v4 v5 v1_0 v1_1 v1_2 k (fun v4 v5 v1_0 v1_1 v1_2 => K (.exit 1) (f99s3 v4 v5 v1_0 v1_1 v1_2))) (by kernel_rfl) (by kernel_rfl) (f99t14 N v4 v5 v1_0 v1_1 v1_2 (seqK (fun σ => f99i N f99c15 f99p15 σ (joinK (some f99l3) K)) (joinK (some f99l3) K))) (funext fun v4 => funext fun v5 => funext fun v1_0 => funext fun v1_1 => funext fun v1_2 => f99t15 N v4 v5 v1_0 v1_1 v1_2 K) (by kernel_rfl) (by kernel_rfl)
noncomputable def f99c12 := codeAt (bodyOf Try.f99) [1,1,0,1,0,0,1,0]
noncomputable def f99p12 : Plan := .mk (some f99l3) none f99p13 .n
theorem f99t12 {ρ : Type} (N : Nat) (v4 : List Int) (v5 v1_0 v1_1 : Int) (v1_2 : List Int) (K : KT ρ) : f99i N f99c12 f99p12 (f99s3 v4 v5 v1_0 v1_1 v1_2) (joinK (some f99l3) K) =
  spec_l1Factors.Z12 N v4 v5 v1_0 v1_1 v1_2 (fun v4 v5 v1_0 v1_1 v1_2 => K .nrm (f99s3 v4 v5 v1_0 v1_1 v1_2)) :=
  viaBlock (by kernel_rfl) (by kernel_rfl) (f99t13 N v4 v5 v1_0 v1_1 v1_2 (blockK 1 (joinK (some f99l3) K))) (by kernel_rfl)
noncomputable def f99c38 := codeAt (bodyOf Try.f99) [1,1,0,1,0,0,1,1]
theorem f99t38 {ρ : Type} (N : Nat) (v4 : List Int) (v5 v1_0 v1_1 : Int) (v1_2 : List Int) (K : KT ρ) : f99i N f99c38 .n (f99s3 v4 v5 v1_0 v1_1 v1_2) (joinK (some f99l3) K) =
  spec_l1Factors.Z38 N v4 v5 v1_0 v1_1 v1_2 (fun v4 v5 v1_0 v1_1 v1_2 => K .nrm (f99s3 v4 v5 v1_0 v1_1 v1_2)) := by kernel_rfl
noncomputable def f99c11 := codeAt (bodyOf Try.f99) [1,1,0,1,0,0,1]
noncomputable def f99p11 : Plan := .mk (some f99l3) none f99p12 .n
theorem f99t11 {ρ : Type} (N : Nat) (v4 : List Int) (v5 v1_0 v1_1 : Int) (v1_2 : List Int) (K : KT ρ) : f99i N f99c11 f99p11 (f99s3 v4 v5 v1_0 v1_1 v1_2) (joinK (some f99l3) K) =
  spec_l1Factors.Z11 N v4 v5 v1_0 v1_1 v1_2 (fun v4 v5 v1_0 v1_1 v1_2 => K .nrm (f99s3 v4 v5 v1_0 v1_1 v1_2)) :=
  viaSeq (fun k => spec_l1Factors.Z12 N v4 v5 v1_0 v1_1 v1_2 k) (by kernel_rfl) (by kernel_rfl) (f99t12 N v4 v5 v1_0 v1_1 v1_2 (seqK (fun σ => f99i N f99c38 .n σ (joinK (some f99l3) K)) (joinK (some f99l3) K))) (funext fun v4 => funext fun v5 => funext fun v1_0 => funext fun v1_1 => funext fun v1_2 => f99t38 N v4 v5 v1_0 v1_1 v1_2 K) (by kernel_rfl) (by kernel_rfl)
noncomputable def f99c9 := codeAt (bodyOf Try.f99) [1,1,0,1,0,0]
noncomputable def f99p9 : Plan := .mk (some f99l3) none .n f99p11
theorem f99t9 {ρ : Type} (N : Nat) (v4 : List Int) (v5 v1_0 v1_1 : Int) (v1_2 : List Int) (K : KT ρ) : f99i N f99c9 f99p9 (f99s3 v4 v5 v1_0 v1_1 v1_2) (joinK (some f99l3) K) =
  spec_l1Factors.Z9 N v4 v5 v1_0 v1_1 v1_2 (fun v4 v5 v1_0 v1_1 v1_2 => K .nrm (f99s3 v4 v5 v1_0 v1_1 v1_2)) (fun v4 v1_0 v1_1 v1_2 => K (.exit 0) (f99s2 v4 v1_0 v1_1 v1_2)) :=
  viaSeq (fun k => spec_l1Factors.Z10 N v4 v5 v1_0 v1_1 v1_2 k (fun v4 v1_0 v1_1 v1_2 => K (.exit 0) (f99s2 v4 v1_0 v1_1 v1_2))) (by kernel_rfl) (by kernel_rfl) (f99t10 N v4 v5 v1_0 v1_1 v1_2 (seqK (fun σ => f99i N f99c11 f99p11 σ (joinK (some f99l3) K)) (joinK (some f99l3) K))) (funext fun v4 => funext fun v5 => funext fun v1_0 => funext fun v1_1 => funext fun v1_2 => f99t11 N v4 v5 v1_0 v1_1 v1_2 K) (by kernel_rfl) (by kernel_rfl)
noncomputable def f99c8 := codeAt (bodyOf Try.f99) [1,1,0,1,0]
noncomputable def f99p8 : Plan := .mk none (some f99l3) f99p9 .n
noncomputable abbrev f99w8 {ρ : Type} (N M : Nat) (σ : St) (K : KT ρ) : Option ρ := loopC (fun σ K => f99i N f99c9 f99p9 σ K) f99l3 M σ K
theorem f99t8L {ρ : Type} (N : Nat) (K : KT ρ) : ∀ (M : Nat) (v4 : List Int) (v5 v1_0 v1_1 : Int) (v1_2 : List Int), f99w8 N M (f99s3 v4 v5 v1_0 v1_1 v1_2) K =
  spec_l1Factors.Z8L N (fun v4 v1_0 v1_1 v1_2 => K (.exit 0) (f99s2 v4 v1_0 v1_1 v1_2)) M v4 v5 v1_0 v1_1 v1_2
  | 0, _, _, _, _, _ => rfl
  | M + 1, v4, v5, v1_0, v1_1, v1_2 => viaRound (fun k => spec_l1Factors.Z9 N v4 v5 v1_0 v1_1 v1_2 k (fun v4 v1_0 v1_1 v1_2 => K (.exit 0) (f99s2 v4 v1_0 v1_1 v1_2))) (f99t9 N v4 v5 v1_0 v1_1 v1_2 (seqK (fun σ => f99w8 N M σ K) K)) (funext fun v4 => funext fun v5 => funext fun v1_0 => funext fun v1_1 => funext fun v1_2 => f99t8L N K M v4 v5 v1_0 v1_1 v1_2) (by kernel_rfl) (by kernel_rfl)
theorem f99t8 {ρ : Type} (N : Nat) (v4 : List Int) (v5 v1_0 v1_1 : Int) (v1_2 : List Int) (K : KT ρ) : f99i N f99c8 f99p8 (f99s3 v4 v5 v1_0 v1_1 v1_2) (joinK (some f99l2) K) =
  spec_l1Factors.Z8 N v4 v5 v1_0 v1_1 v1_2 (fun v4 v1_0 v1_1 v1_2 => K (.exit 0) (f99s2 v4 v1_0 v1_1 v1_2)) :=
  viaLoop (by kernel_rfl) (by kernel_rfl) (σ' := f99s3 v4 v5 v1_0 v1_1 v1_2) (by kernel_rfl) (f99t8L N (joinK (some f99l2) K) N v4 v5 v1_0 v1_1 v1_2) (by kernel_rfl)
noncomputable def f99c7 := codeAt (bodyOf Try.f99) [1,1,0,1]
noncomputable def f99p7 : Plan := .mk (some f99l2) none f99p8 .n
theorem f99t7 {ρ : Type} (N : Nat) (v4 : List Int) (v5 v1_0 v1_1 : Int) (v1_2 : List Int) (K : KT ρ) : f99i N f99c7 f99p7 (f99s3 v4 v5 v1_0 v1_1 v1_2) (joinK (some f99l2) K) =
  spec_l1Factors.Z7 N v4 v5 v1_0 v1_1 v1_2 (fun v4 v1_0 v1_1 v1_2 => K .nrm (f99s2 v4 v1_0 v1_1 v1_2)) :=
  viaBlock (by kernel_rfl) (by kernel_rfl) (f99t8 N v4 v5 v1_0 v1_1 v1_2 (blockK 0 (joinK (some f99l2) K))) (by kernel_rfl)
noncomputable def f99c5 := codeAt (bodyOf Try.f99) [1,1,0]
noncomputable def f99p5 : Plan := .mk (some f99l3) none .n f99p7
theorem f99t5 {ρ : Type} (N : Nat) (v4 : List Int) (v1_0 v1_1 : Int) (v1_2 : List Int) (K : KT ρ) : f99i N f99c5 f99p5 (f99s2 v4 v1_0 v1_1 v1_2) (joinK (some f99l2) K) =
  spec_l1Factors.Z5 N v4 v1_0 v1_1 v1_2 (fun v4 v1_0 v1_1 v1_2 => K .nrm (f99s2 v4 v1_0 v1_1 v1_2)) :=
  viaSeq (fun k => spec_l1Factors.Z6 N v4 v1_0 v1_1 v1_2 k) (by kernel_rfl) (by kernel_rfl) (f99t6 N v4 v1_0 v1_1 v1_2 (seqK (fun σ => f99i N f99c7 f99p7 σ (joinK (some f99l2) K)) (joinK (some f99l2) K))) (funext fun v4 => funext fun v5 => funext fun v1_0 => funext fun v1_1 => funext fun v1_2 => f99t7 N v4 v5 v1_0 v1_1 v1_2 K) (by kernel_rfl) (by kernel_rfl)
noncomputable def f99c41 := codeAt (bodyOf Try.f99) [1,1,1,0,0]
theorem f99t41 {ρ : Type} (N : Nat) (v4 : List Int) (v1_0 v1_1 : Int) (v1_2 : List Int) (K : KT ρ) : f99i N f99c41 .n (f99s2 v4 v1_0 v1_1 v1_2) (joinK (some f99l10) K) =
  spec_l1Factors.Z41 N v4 v1_0 v1_1 v1_2 (fun v4 v12 v1_0 v1_1 v1_2 => K .nrm (f99s10 v4 v12 v1_0 v1_1 v1_2)) := by kernel_rfl
noncomputable def f99c45 := codeAt (bodyOf Try.f99) [1,1,1,0,1,0,0,0]
theorem f99t45 {ρ : Type} (N : Nat) (v4 : List Int) (v12 v1_0 v1_1 : Int) (v1_2 : List Int) (K : KT ρ) : f99i N f99c45 .n (f99s10 v4 v12 v1_0 v1_1 v1_2) (joinK (some f99l10) K) =
  spec_l1Factors.Z45 N v4 v12 v1_0 v1_1 v1_2 (fun v4 v12 v1_0 v1_1 v1_2 => K .nrm (f99s10 v4 v12 v1_0 v1_1 v1_2)) (fun v4 => K (.exit 8) (f99s12 v4)) := by kernel_rfl
noncomputable def f99c49 := codeAt (bodyOf Try.f99) [1,1,1,0,1,0,0,1,0,0,0]
theorem f99t49 {ρ : Type} (N : Nat) (v4 : List Int) (v12 v1_0 v1_1 : Int) (v1_2 : List Int) (K : KT ρ) : f99i N f99c49 .n (f99s10 v4 v12 v1_0 v1_1 v1_2) (joinK (some f99l11) K) =
  spec_l1Factors.Z49 N v4 v12 v1_0 v1_1 v1_2 (fun v4 v12 v13 v1_0 v1_1 v1_2 => K .nrm (f99s11 v4 v12 v13 v1_0 v1_1 v1_2)) := by kernel_rfl
noncomputable def f99c52 := codeAt (bodyOf Try.f99) [1,1,1,0,1,0,0,1,0,0,1,0,0]
theorem f99t52 {ρ : Type} (N : Nat) (v4 : List Int) (v12 v13 : Int) (v1_0 v1_1 : Int) (v1_2 : List Int) (K : KT ρ) : f99i N f99c52 .n (f99s11 v4 v12 v13 v1_0 v1_1 v1_2) (joinK (some f99l11) K) =
  spec_l1Factors.Z52 N v4 v12 v13 v1_0 v1_1 v1_2 (fun v4 v12 v13 v1_0 v1_1 v1_2 => K .nrm (f99s11 v4 v12 v13 v1_0 v1_1 v1_2)) (fun v4 v12 v1_0 v1_1 v1_2 => K (.exit 10) (f99s10 v4 v12 v1_0 v1_1 v1_2)) (fun v2 v3 => K .ret (f99s13 v2 v3)) := by kernel_rfl
noncomputable def f99c51 := codeAt (bodyOf Try.f99) [1,1,1,0,1,0,0,1,0,0,1,0]
noncomputable def f99p51 : Plan := .mk none (some f99l11) .n .n
noncomputable abbrev f99w51 {ρ : Type} (N M : Nat) (σ : St) (K : KT ρ) : Option ρ := loopC (fun σ K => f99i N f99c52 .n σ K) f99l11 M σ K
theorem f99t51L {ρ : Type} (N : Nat) (K : KT ρ) : ∀ (M : Nat) (v4 : List Int) (v12 v13 : Int) (v1_0 v1_1 : Int) (v1_2 : List Int), f99w51 N M (f99s11 v4 v12 v13 v1_0 v1_1 v1_2) K =
  spec_l1Factors.Z51L N (fun v4 v12 v1_0 v1_1 v1_2 => K (.exit 10) (f99s10 v4 v12 v1_0 v1_1 v1_2)) (fun v2 v3 => K .ret (f99s13 v2 v3)) M v4 v12 v13 v1_0 v1_1 v1_2
  | 0, _, _, _, _, _, _ => rfl
  | M + 1, v4, v12, v13, v1_0, v1_1, v1_2 => viaRound (fun k => spec_l1Factors.Z52 N v4 v12 v13 v1_0 v1_1 v1_2 k (fun v4 v12 v1_0 v1_1 v1_2 => K (.exit 10) (f99s10 v4 v12 v1_0 v1_1 v1_2)) (fun v2 v3 => K .ret (f99s13 v2 v3))) (f99t52 N v4 v12 v13 v1_0 v1_1 v1_2 (seqK (fun σ => f99w51 N M σ K) K)) (funext fun v4 => funext fun v12 => funext fun v13 => funext fun v1_0 => funext fun v1_1 => funext fun v1_2 => f99t51L N K M v4 v12 v13 v1_0 v1_1 v1_2) (by kernel_rfl) (by kernel_rfl)
theorem f99t51 {ρ : Type} (N : Nat) (v4 : List Int) (v12 v13 : Int) (v1_0 v1_1 : Int) (v1_2 : List Int) (K : KT ρ) : f99i N f99c51 f99p51 (f99s11 v4 v12 v13 v1_0 v1_1 v1_2) (joinK (some f99l10) K) =
  spec_l1Factors.Z51 N v4 v12 v13 v1_0 v1_1 v1_2 (fun v4 v12 v1_0 v1_1 v1_2 => K (.exit 10) (f99s10 v4 v12 v1_0 v1_1 v1_2)) (fun v2 v3 => K .ret (f99s13 v2 v3)) :=
  viaLoop (by kernel_rfl) (by kernel_rfl) (σ' := f99s11 v4 v12 v13 v1_0 v1_1 v1_2) (by kernel_rfl) (f99t51L N (joinK (some f99l10) K) N v4 v12 v13 v1_0 v1_1 v1_2) (by kernel_rfl)
noncomputable def f99c50 := codeAt (bodyOf Try.f99) [1,1,1,0,1,0,0,1,0,0,1]
noncomputable def f99p50 : Plan := .mk (some f99l10) none f99p51 .n
theorem f99t50 {ρ : Type} (N : Nat) (v4 : List Int) (v12 v13 : Int) (v1_0 v1_1 : Int) (v1_2 : List Int) (K : KT ρ) : f99i N f99c50 f99p50 (f99s11 v4 v12 v13 v1_0 v1_1 v1_2) (joinK (some f99l10) K) =
  spec_l1Factors.Z50 N v4 v12 v13 v1_0 v1_1 v1_2 (fun v4 v12 v1_0 v1_1 v1_2 => K .nrm (f99s10 v4 v12 v1_0 v1_1 v1_2)) (fun v2 v3 => K .ret (f99s13 v2 v3)) :=
  viaBlock (by kernel_rfl) (by kernel_rfl) (f99t51 N v4 v12 v13 v1_0 v1_1 v1_2 (blockK 10 (joinK (some f99l10) K))) (by kernel_rfl)
noncomputable def f99c48 := codeAt (bodyOf Try.f99) [1,1,1,0,1,0,0,1,0,0]
noncomputable def f99p48 : Plan := .mk (some f99l11) none .n f99p50
theorem f99t48 {ρ : Type} (N : Nat) (v4 : List Int) (v12 v1_0 v1_1 : Int) (v1_2 : List Int) (K : KT ρ) : f99i N f99c48 f99p48 (f99s10 v4 v12 v1_0 v1_1 v1_2) (joinK (some f99l10) K) =
  spec_l1Factors.Z48 N v4 v12 v1_0 v1_1 v1_2 (fun v4 v12 v1_0 v1_1 v1_2 => K .nrm (f99s10 v4 v12 v1_0 v1_1 v1_2)) (fun v2 v3 => K .ret (f99s13 v2 v3)) :=
  viaSeq (fun k => spec_l1Factors.Z49 N v4 v12 v1_0 v1_1 v1_2 k) (by kernel_rfl) (by kernel_rfl) (f99t49 N v4 v12 v1_0 v1_1 v1_2 (seqK (fun σ => f99i N f99c50 f99p50 σ (joinK (some f99l10) K)) (joinK (some f99l10) K))) (funext fun v4 => funext fun v12 => funext fun v13 => funext fun v1_0 => funext fun v1_1 => funext fun v1_2 => f99t50 N v4 v12 v13 v1_0 v1_1 v1_2 K) (by kernel_rfl) (by kernel_rfl)
noncomputable def f99c47 := codeAt (bodyOf Try.f99) [1,1,1,0,1,0,0,1,0]
noncomputable def f99p47 : Plan := .mk (some f99l10) none f99p48 .n
theorem f99t47 {ρ : Type} (N : Nat) (v4 : List Int) (v12 v1_0 v1_1 : Int) (v1_2 : List Int) (K : KT ρ) : f99i N f99c47 f99p47 (f99s10 v4 v12 v1_0 v1_1 v1_2) (joinK (some f99l10) K) =
  spec_l1Factors.Z47 N v4 v12 v1_0 v1_1 v1_2 (fun v4 v12 v1_0 v1_1 v1_2 => K .nrm (f99s10 v4 v12 v1_0 v1_1 v1_2)) (fun v2 v3 => K .ret (f99s13 v2 v3)) :=
  viaBlock (by kernel_rfl) (by kernel_rfl) (f99t48 N v4 v12 v1_0 v1_1 v1_2 (blockK 9 (joinK (some f99l10) K))) (by kernel_rfl)
noncomputable def f99c53 := codeAt (bodyOf Try.f99) [1,1,1,0,1,0,0,1,1]
theorem f99t53 {ρ : Type} (N : Nat) (v4 : List Int) (v12 v1_0 v1_1 : Int) (v1_2 : List Int) (K : KT ρ) : f99i N f99c53 .n (f99s10 v4 v12 v1_0 v1_1 v1_2) (joinK (some f99l10) K) =
  spec_l1Factors.Z53 N v4 v12 v1_0 v1_1 v1_2 (fun v4 v12 v1_0 v1_1 v1_2 => K .nrm (f99s10 v4 v12 v1_0 v1_1 v1_2)) := by kernel_rfl
noncomputable def f99c46 := codeAt (bodyOf Try.f99) [1,1,1,0,1,0,0,1]
noncomputable def f99p46 : Plan := .mk (some f99l10) none f99p47 .n
theorem f99t46 {ρ : Type} (N : Nat) (v4 : List Int) (v12 v1_0 v1_1 : Int) (v1_2 : List Int) (K : KT ρ) : f99i N f99c46 f99p46 (f99s10 v4 v12 v1_0 v1_1 v1_2) (joinK (some f99l10) K) =
  spec_l1Factors.Z46 N v4 v12 v1_0 v1_1 v1_2 (fun v4 v12 v1_0 v1_1 v1_2 => K .nrm (f99s10 v4 v12 v1_0 v1_1 v1_2)) (fun v2 v3 => K .ret (f99s13 v2 v3)) :=
  viaSeq (fun k => spec_l1Factors.Z47 N v4 v12 v1_0 v1_1 v1_2 k (fun v2 v3 => K .ret (f99s13 v2 v3))) (by kernel_rfl) (by kernel_rfl) (f99t47 N v4 v12 v1_0 v1_1 v1_2 (seqK (fun σ => f99i N f99c53 .n σ (joinK (some f99l10) K)) (joinK (some f99l10) K))) (funext fun v4 => funext fun v12 => funext fun v1_0 => funext fun v1_1 => funext fun v1_2 => f99t53 N v4 v12 v1_0 v1_1 v1_2 K) (by kernel_rfl) (by kernel_rfl)
noncomputable def f99c44 := codeAt (bodyOf Try.f99) [1,1,1,0,1,0,0]
noncomputable def f99p44 : Plan := .mk (some f99l10) none .n f99p46
theorem f99t44 {ρ : Type} (N : Nat) (v4 : List Int) (v12 v1_0 v1_1 : Int) (v1_2 : List Int) (K : KT ρ) : f99i N f99c44 f99p44 (f99s10 v4 v12 v1_0 v1_1 v1_2) (joinK (some f99l10) K) =
  spec_l1Factors.Z44 N v4 v12 v1_0 v1_1 v1_2 (fun v4 v12 v1_0 v1_1 v1_2 => K .nrm (f99s10 v4 v12 v1_0 v1_1 v1_2)) (fun v4 => K (.exit 8) (f99s12 v4)) (fun v2 v3 => K .ret (f99s13 v2 v3)) :=
  viaSeq (fun k => spec_l1Factors.Z45 N v4 v12 v1_0 v1_1 v1_2 k (fun v4 => K (.exit 8) (f99s12 v4))) (by kernel_rfl) (by kernel_rfl) (f99t45 N v4 v12 v1_0 v1_1 v1_2 (seqK (fun σ => f99i N f99c46 f99p46 σ (joinK (some f99l10) K)) (joinK (some f99l10) K))) (funext fun v4 => funext fun v12 => funext fun v1_0 => funext fun v1_1 => funext fun v1_2 => f99t46 N v4 v12 v1_0 v1_1 v1_2 K) (by kernel_rfl) (by kernel_rfl)
noncomputable def f99c43 := codeAt (bodyOf Try.f99) [1,1,1,0,1,0]
noncomputable def f99p43 : Plan := .mk none (some f99l10) f99p44 .n
noncomputable abbrev f99w43 {ρ : Type} (N M : Nat) (σ : St) (K : KT ρ) : Option ρ := loopC (fun σ K => f99i N f99c44 f99p44 σ K) f99l10 M σ K
theorem f99t43L {ρ : Type} (N : Nat) (K : KT ρ) : ∀ (M : Nat) (v4 : List Int) (v12 v1_0 v1_1 : Int) (v1_2 : List Int), f99w43 N M (f99s10 v4 v12 v1_0 v1_1 v1_2) K =
  spec_l1Factors.Z43L N (fun v4 => K (.exit 8) (f99s12 v4)) (fun v2 v3 => K .ret (f99s13 v2 v3)) M v4 v12 v1_0 v1_1 v1_2
  | 0, _, _, _, _, _ => rfl
  | M + 1, v4, v12, v1_0, v1_1, v1_2 => viaRound (fun k => spec_l1Factors.Z44 N v4 v12 v1_0 v1_1 v1_2 k (fun v4 => K (.exit 8) (f99s12 v4)) (fun v2 v3 => K .ret (f99s13 v2 v3))) (f99t44 N v4 v12 v1_0 v1_1 v1_2 (seqK (fun σ => f99w43 N M σ K) K)) (funext fun v4 => funext fun v12 => funext fun v1_0 => funext fun v1_1 => funext fun v1_2 => f99t43L N K M v4 v12 v1_0 v1_1 v1_2) (by kernel_rfl) (by kernel_rfl)
theorem f99t43 {ρ : Type} (N : Nat) (v4 : List Int) (v12 v1_0 v1_1 : Int) (v1_2 : List Int) (K : KT ρ) : f99i N f99c43 f99p43 (f99s10 v4 v12 v1_0 v1_1 v1_2) (joinK (some f99l12) K) =
  spec_l1Factors.Z43 N v4 v12 v1_0 v1_1 v1_2 (fun v4 => K (.exit 8) (f99s12 v4)) (fun v2 v3 => K .ret (f99s13 v2 v3)) :=
  viaLoop (by kernel_rfl) (by kernel_rfl) (σ' := f99s10 v4 v12 v1_0 v1_1 v1_2) (by kernel_rfl) (f99t43L N (joinK (some f99l12) K) N v4 v12 v1_0 v1_1 v1_2) (by kernel_rfl)
noncomputable def f99c42 := codeAt (bodyOf Try.f99) [1,1,1,0,1]
noncomputable def f99p42 : Plan := .mk (some f99l12) none f99p43 .n
theorem f99t42 {ρ : Type} (N : Nat) (v4 : List Int) (v12 v1_0 v1_1 : Int) (v1_2 : List Int) (K : KT ρ) : f99i N f99c42 f99p42 (f99s10 v4 v12 v1_0 v1_1 v1_2) (joinK (some f99l12) K) =
  spec_l1Factors.Z42 N v4 v12 v1_0 v1_1 v1_2 (fun v4 => K .nrm (f99s12 v4)) (fun v2 v3 => K .ret (f99s13 v2 v3)) :=
  viaBlock (by kernel_rfl) (by kernel_rfl) (f99t43 N v4 v12 v1_0 v1_1 v1_2 (blockK 8 (joinK (some f99l12) K))) (by kernel_rfl)
noncomputable def f99c40 := codeAt (bodyOf Try.f99) [1,1,1,0]
noncomputable def f99p40 : Plan := .mk (some f99l10) none .n f99p42
theorem f99t40 {ρ : Type} (N : Nat) (v4 : List Int) (v1_0 v1_1 : Int) (v1_2 : List Int) (K : KT ρ) : f99i N f99c40 f99p40 (f99s2 v4 v1_0 v1_1 v1_2) (joinK (some f99l12) K) =
  spec_l1Factors.Z40 N v4 v1_0 v1_1 v1_2 (fun v4 => K .nrm (f99s12 v4)) (fun v2 v3 => K .ret (f99s13 v2 v3)) :=
  viaSeq (fun k => spec_l1Factors.Z41 N v4 v1_0 v1_1 v1_2 k) (by kernel_rfl) (by kernel_rfl) (f99t41 N v4 v1_0 v1_1 v1_2 (seqK (fun σ => f99i N f99c42 f99p42 σ (joinK (some f99l12) K)) (joinK (some f99l12) K))) (funext fun v4 => funext fun v12 => funext fun v1_0 => funext fun v1_1 => funext fun v1_2 => f99t42 N v4 v12 v1_0 v1_1 v1_2 K) (by kernel_rfl) (by kernel_rfl)
noncomputable def f99c54 := codeAt (bodyOf Try.f99) [1,1,1,1]
theorem f99t54 {ρ : Type} (N : Nat) (v4 : List Int) (K : KT ρ) : f99i N f99c54 .n (f99s12 v4) (joinK (some f99lE) K) =
  spec_l1Factors.Z54 N v4 (fun v2 v3 => K .ret (f99s13 v2 v3)) := by kernel_rfl
noncomputable def f99c39 := codeAt (bodyOf Try.f99) [1,1,1]
noncomputable def f99p39 : Plan := .mk (some f99l12) none f99p40 .n
theorem f99t39 {ρ : Type} (N : Nat) (v4 : List Int) (v1_0 v1_1 : Int) (v1_2 : List Int) (K : KT ρ) : f99i N f99c39 f99p39 (f99s2 v4 v1_0 v1_1 v1_2) (joinK (some f99lE) K) =
  spec_l1Factors.Z39 N v4 v1_0 v1_1 v1_2 (fun v2 v3 => K .ret (f99s13 v2 v3)) :=
  viaSeq (fun k => spec_l1Factors.Z40 N v4 v1_0 v1_1 v1_2 k (fun v2 v3 => K .ret (f99s13 v2 v3))) (by kernel_rfl) (by kernel_rfl) (f99t40 N v4 v1_0 v1_1 v1_2 (seqK (fun σ => f99i N f99c54 .n σ (joinK (some f99lE) K)) (joinK (some f99lE) K))) (funext fun v4 => f99t54 N v4 K) (by kernel_rfl) (by kernel_rfl)
noncomputable def f99c4 := codeAt (bodyOf Try.f99) [1,1]
noncomputable def f99p4 : Plan := .mk (some f99l2) none f99p5 f99p39
theorem f99t4 {ρ : Type} (N : Nat) (v4 : List Int) (v1_0 v1_1 : Int) (v1_2 : List Int) (K : KT ρ) : f99i N f99c4 f99p4 (f99s2 v4 v1_0 v1_1 v1_2) (joinK (some f99lE) K) =
  spec_l1Factors.Z4 N v4 v1_0 v1_1 v1_2 (fun v2 v3 => K .ret (f99s13 v2 v3)) :=
  viaSeq (fun k => spec_l1Factors.Z5 N v4 v1_0 v1_1 v1_2 k) (by kernel_rfl) (by kernel_rfl) (f99t5 N v4 v1_0 v1_1 v1_2 (seqK (fun σ => f99i N f99c39 f99p39 σ (joinK (some f99lE) K)) (joinK (some f99lE) K))) (funext fun v4 => funext fun v1_0 => funext fun v1_1 => funext fun v1_2 => f99t39 N v4 v1_0 v1_1 v1_2 K) (by kernel_rfl) (by kernel_rfl)
noncomputable def f99c2 := codeAt (bodyOf Try.f99) [1]
noncomputable def f99p2 : Plan := .mk (some f99l2) none .n f99p4
theorem f99t2 {ρ : Type} (N : Nat) (v1_0 v1_1 : Int) (v1_2 : List Int) (K : KT ρ) : f99i N f99c2 f99p2 (f99s1 v1_0 v1_1 v1_2) (joinK (some f99lE) K) =
  spec_l1Factors.Z2 N v1_0 v1_1 v1_2 (fun v2 v3 => K .ret (f99s13 v2 v3)) :=
  viaSeq (fun k => spec_l1Factors.Z3 N v1_0 v1_1 v1_2 k) (by kernel_rfl) (by kernel_rfl) (f99t3 N v1_0 v1_1 v1_2 (seqK (fun σ => f99i N f99c4 f99p4 σ (joinK (some f99lE) K)) (joinK (some f99lE) K))) (funext fun v4 => funext fun v1_0 => funext fun v1_1 => funext fun v1_2 => f99t4 N v4 v1_0 v1_1 v1_2 K) (by kernel_rfl) (by kernel_rfl)
noncomputable def f99c0 := codeAt (bodyOf Try.f99) []
noncomputable def f99p0 : Plan := .mk (some f99l1) none .n f99p2
theorem f99t0 {ρ : Type} (N : Nat) (v0 : Int × Int × List Int) (K : KT ρ) : f99i N f99c0 f99p0 (f99s0 v0) (joinK (some f99lE) K) =
  spec_l1Factors.Z0 N v0 (fun v2 v3 => K .ret (f99s13 v2 v3)) :=
  viaSeq (fun k => spec_l1Factors.Z1 N v0 k) (by kernel_rfl) (by kernel_rfl) (f99t1 N v0 (seqK (fun σ => f99i N f99c2 f99p2 σ (joinK (some f99lE) K)) (joinK (some f99lE) K))) (funext fun v1_0 => funext fun v1_1 => funext fun v1_2 => f99t2 N v1_0 v1_1 v1_2 K) (by kernel_rfl) (by kernel_rfl)
theorem f99m (N : Nat) (v0 : Int × Int × List Int) : f99i N f99c0 f99p0 (f99s0 v0) (joinK (some f99lE) (finK tab f99sig Try.f99.results.toList)) = spec_l1Factors.Z0 N v0 (fun v2 v3 => some ((), (v2, (v3, ())))) :=
  (f99t0 N v0 (finK tab f99sig Try.f99.results.toList)).trans (by kernel_rfl)
theorem f99ok (h : spec_l1Factors.Spec) : EntryOk Try.prog 99 e99 :=
  entry_of_code (sig := f99sig) (c := f99c0) (pl := f99p0) (je := (some f99lE)) (B := f99B) Try.func99 (by kernel_rfl) (by kernel_rfl) (by kernel_rfl) tabOk f99GOk (by kernel_rfl) (by kernel_rfl) (by kernel_rfl) (by kernel_rfl) fun X hb hp => by
    obtain ⟨v0, _⟩ := X
    obtain ⟨N, h⟩ := h v0 hb.1 hp
    exact ⟨N, (f99m N v0).trans (h N (Nat.le_refl N))⟩
theorem e99ok : EntryOk Try.prog 99 e99 := f99ok spec_l1Factors.ok
end Go.Fw
set_option linter.unusedVariables false
set_option linter.unusedSimpArgs false
set_option maxRecDepth 100000
namespace Go.Fw
open Go.Proofs
/-! ### loop.example/g03115/spec.MatrixOk -/
noncomputable def f72sig : Sig := ⟨[⟨.pair (.int .i64) (.pair (.int .i64) (.sl 3 (.int .i64))), true, false⟩], [⟨.bool, false, false⟩]⟩
noncomputable def e72 : Entry := ⟨f72sig, none, fun X => ((), ((spec_MatrixOk.g X.1), ()))⟩
noncomputable def f72G : Nat → Option Entry := addG (addG (fun _ => none) 78 e78) 99 e99
theorem f72GOk : GOk Try.prog f72G := ((GOk.nil).add e78ok (by kernel_rfl)).add e99ok (by kernel_rfl)
noncomputable def f72lE : Clean := ⟨[], [], [], [], []⟩
noncomputable def f72s0 (v0 : Int × Int × List Int) : St := initSt f72sig.ps (v0, ())
noncomputable def f72s1 (v2 : Bool) : St := stOf [(2, .c (.bool v2))] [] []
noncomputable def f72l1 : Clean := ⟨[2], [], [], [], []⟩
noncomputable def f72B : Nat → Option Clean := lookL [(1000000, f72l1)]
noncomputable abbrev f72i {ρ : Type} (N : Nat) (c : Code) (p : Plan) (σ : St) (K : KT ρ) : Option ρ := iCode f72G tab f72B N c p σ K
noncomputable def f72c0 := codeAt (bodyOf Try.f72) []
theorem f72t0 {ρ : Type} (N : Nat) (v0 : Int × Int × List Int) (K : KT ρ) : f72i N f72c0 .n (f72s0 v0) (joinK (some f72lE) K) =
  spec_MatrixOk.Z0 N v0 (fun v2 => K .ret (f72s1 v2)) := by kernel_rfl
theorem f72m (N : Nat) (v0 : Int × Int × List Int) : f72i N f72c0 .n (f72s0 v0) (joinK (some f72lE) (finK tab f72sig Try.f72.results.toList)) = spec_MatrixOk.Z0 N v0 (fun v2 => some ((), (v2, ()))) :=
  (f72t0 N v0 (finK tab f72sig Try.f72.results.toList)).trans (by kernel_rfl)
theorem f72ok (h : spec_MatrixOk.Spec) : EntryOk Try.prog 72 e72 :=
  entry_of_code (sig := f72sig) (c := f72c0) (pl := .n) (je := (some f72lE)) (B := f72B) Try.func72 (by kernel_rfl) (by kernel_rfl) (by kernel_rfl) tabOk f72GOk (by kernel_rfl) (by kernel_rfl) (by kernel_rfl) (by kernel_rfl) fun X hb hp => by
    obtain ⟨v0, _⟩ := X
    obtain ⟨N, h⟩ := h v0 hb.1
    exact ⟨N, (f72m N v0).trans (h N (Nat.le_refl N))⟩
theorem e72ok : EntryOk Try.prog 72 e72 := f72ok spec_MatrixOk.ok
end Go.Fw
set_option linter.unusedVariables false
set_option linter.unusedSimpArgs false
set_option maxRecDepth 100000
namespace Go.Fw
open Go.Proofs
/-! ### loop.example/g03115/spec.l4Square -/
noncomputable def f68sig : Sig := ⟨[⟨.pair (.int .i64) (.pair (.int .i64) (.sl 3 (.int .i64))), true, false⟩], [⟨.bool, false, false⟩]⟩
noncomputable def e68 : Entry := ⟨f68sig, none, fun X => ((), ((spec_l4Square.g X.1), ()))⟩
noncomputable def f68G : Nat → Option Entry := addG (fun _ => none) 72 e72
theorem f68GOk : GOk Try.prog f68G := (GOk.nil).add e72ok (by kernel_rfl)
noncomputable def f68lE : Clean := ⟨[], [], [], [], []⟩
noncomputable def f68s0 (v0 : Int × Int × List Int) : St := initSt f68sig.ps (v0, ())
noncomputable def f68s1 (v2 : Bool) : St := stOf [(2, .c (.bool v2))] [] []
noncomputable def f68l1 : Clean := ⟨[2], [], [], [], []⟩
noncomputable def f68B : Nat → Option Clean := lookL [(1000000, f68l1)]
noncomputable abbrev f68i {ρ : Type} (N : Nat) (c : Code) (p : Plan) (σ : St) (K : KT ρ) : Option ρ := iCode f68G tab f68B N c p σ K
noncomputable def f68c0 := codeAt (bodyOf Try.f68) []
theorem f68t0 {ρ : Type} (N : Nat) (v0 : Int × Int × List Int) (K : KT ρ) : f68i N f68c0 .n (f68s0 v0) (joinK (some f68lE) K) =
  spec_l4Square.Z0 N v0 (fun v2 => K .ret (f68s1 v2)) := by kernel_rfl
theorem f68m (N : Nat) (v0 : Int × Int × List Int) : f68i N f68c0 .n (f68s0 v0) (joinK (some f68lE) (finK tab f68sig Try.f68.results.toList)) = spec_l4Square.Z0 N v0 (fun v2 => some ((), (v2, ()))) :=
  (f68t0 N v0 (finK tab f68sig Try.f68.results.toList)).trans (by kernel_rfl)
theorem f68ok (h : spec_l4Square.Spec) : EntryOk Try.prog 68 e68 :=
  entry_of_code (sig := f68sig) (c := f68c0) (pl := .n) (je := (some f68lE)) (B := f68B) Try.func68 (by kernel_rfl) (by kernel_rfl) (by kernel_rfl) tabOk f68GOk (by kernel_rfl) (by kernel_rfl) (by kernel_rfl) (by kernel_rfl) fun X hb hp => by
    obtain ⟨v0, _⟩ := X
    obtain ⟨N, h⟩ := h v0 hb.1
    exact ⟨N, (f68m N v0).trans (h N (Nat.le_refl N))⟩
theorem e68ok : EntryOk Try.prog 68 e68 := f68ok spec_l4Square.ok
end Go.Fw
set_option linter.unusedVariables false
set_option linter.unusedSimpArgs false
set_option maxRecDepth 100000
namespace Go.Fw
open Go.Proofs
/-! ### loop.example/g03115/spec.l1Ints -/
noncomputable def f98sig : Sig := ⟨[⟨.sl 3 (.int .i64), false, false⟩], [⟨.sl 3 (.int .i64), false, false⟩]⟩
noncomputable def e98 : Entry := ⟨f98sig, (some fun X => spec_l1Ints.P X.1), fun X => ((), ((spec_l1Ints.g X.1), ()))⟩
noncomputable def f98G : Nat → Option Entry := (fun _ => none)
theorem f98GOk : GOk Try.prog f98G := GOk.nil
noncomputable def f98lE : Clean := ⟨[], [], [], [], []⟩
noncomputable def f98s0 (v0 : List Int) : St := initSt f98sig.ps (v0, ())
noncomputable def f98s1 (v2 : List Int) : St := stOf [(2, .c (.own 1000128))] [] [(1000128, (⟨3, .int .i64, v2, true, false⟩ : Row))]
noncomputable def f98l1 : Clean := ⟨[2], [], [], [], [(⟨false, 2, 0⟩, 1000128)]⟩
noncomputable def f98B : Nat → Option Clean := lookL [(1000000, f98l1)]
noncomputable abbrev f98i {ρ : Type} (N : Nat) (c : Code) (p : Plan) (σ : St) (K : KT ρ) : Option ρ := iCode f98G tab f98B N c p σ K
noncomputable def f98c0 := codeAt (bodyOf Try.f98) []
theorem f98t0 {ρ : Type} (N : Nat) (v0 : List Int) (K : KT ρ) : f98i N f98c0 .n (f98s0 v0) (joinK (some f98lE) K) =
  spec_l1Ints.Z0 N v0 (fun v2 => K .ret (f98s1 v2)) := by kernel_rfl
theorem f98m (N : Nat) (v0 : List Int) : f98i N f98c0 .n (f98s0 v0) (joinK (some f98lE) (finK tab f98sig Try.f98.results.toList)) = spec_l1Ints.Z0 N v0 (fun v2 => some ((), (v2, ()))) :=
  (f98t0 N v0 (finK tab f98sig Try.f98.results.toList)).trans (by kernel_rfl)
theorem f98ok (h : spec_l1Ints.Spec) : EntryOk Try.prog 98 e98 :=
  entry_of_code (sig := f98sig) (c := f98c0) (pl := .n) (je := (some f98lE)) (B := f98B) Try.func98 (by kernel_rfl) (by kernel_rfl) (by kernel_rfl) tabOk f98GOk (by kernel_rfl) (by kernel_rfl) (by kernel_rfl) (by kernel_rfl) fun X hb hp => by
    obtain ⟨v0, _⟩ := X
    obtain ⟨N, h⟩ := h v0 hb.1 hp
    exact ⟨N, (f98m N v0).trans (h N (Nat.le_refl N))⟩
theorem e98ok : EntryOk Try.prog 98 e98 := f98ok spec_l1Ints.ok
end Go.Fw
set_option linter.unusedVariables false
set_option linter.unusedSimpArgs false
set_option maxRecDepth 100000
namespace Go.Fw
open Go.Proofs
/-! ### loop.example/g03115/spec.l1CopyMatrix -/
noncomputable def f83sig : Sig := ⟨[⟨.pair (.int .i64) (.pair (.int .i64) (.sl 3 (.int .i64))), true, false⟩], [⟨.pair (.int .i64) (.pair (.int .i64) (.sl 3 (.int .i64))), true, false⟩]⟩
noncomputable def e83 : Entry := ⟨f83sig, (some fun X => spec_l1CopyMatrix.P X.1), fun X => ((), ((spec_l1CopyMatrix.g X.1), ()))⟩
noncomputable def f83G : Nat → Option Entry := addG (fun _ => none) 98 e98
theorem f83GOk : GOk Try.prog f83G := (GOk.nil).add e98ok (by kernel_rfl)
noncomputable def f83lE : Clean := ⟨[], [], [], [], []⟩
noncomputable def f83s0 (v0 : Int × Int × List Int) : St := initSt f83sig.ps (v0, ())
noncomputable def f83s1 (v2_2 : List Int) (v2_0 v2_1 : Int) : St := stOf [(2, .c (.box 2 0))] [(2, (26, [.int .i64 v2_0, .int .i64 v2_1, .own 20000130]))] [(20000130, (⟨3, .int .i64, v2_2, true, false⟩ : Row))]
noncomputable def f83l1 : Clean := ⟨[2], [2], [], [], [(⟨true, 2, 2⟩, 20000130)]⟩
noncomputable def f83B : Nat → Option Clean := lookL [(1000000, f83l1)]
noncomputable abbrev f83i {ρ : Type} (N : Nat) (c : Code) (p : Plan) (σ : St) (K : KT ρ) : Option ρ := iCode f83G tab f83B N c p σ K
noncomputable def f83c0 := codeAt (bodyOf Try.f83) []
theorem f83t0 {ρ : Type} (N : Nat) (v0 : Int × Int × List Int) (K : KT ρ) : f83i N f83c0 .n (f83s0 v0) (joinK (some f83lE) K) =
  spec_l1CopyMatrix.Z0 N v0 (fun v2_2 v2_0 v2_1 => K .ret (f83s1 v2_2 v2_0 v2_1)) := by kernel_rfl
theorem f83m (N : Nat) (v0 : Int × Int × List Int) : f83i N f83c0 .n (f83s0 v0) (joinK (some f83lE) (finK tab f83sig Try.f83.results.toList)) = spec_l1CopyMatrix.Z0 N v0 (fun v2_2 v2_0 v2_1 => some ((), ((v2_0, (v2_1, v2_2)), ()))) :=
  (f83t0 N v0 (finK tab f83sig Try.f83.results.toList)).trans (by kernel_rfl)
theorem f83ok (h : spec_l1CopyMatrix.Spec) : EntryOk Try.prog 83 e83 :=
  entry_of_code (sig := f83sig) (c := f83c0) (pl := .n) (je := (some f83lE)) (B := f83B) Try.func83 (by kernel_rfl) (by kernel_rfl) (by kernel_rfl) tabOk f83GOk (by kernel_rfl) (by kernel_rfl) (by kernel_rfl) (by kernel_rfl) fun X hb hp => by
    obtain ⟨v0, _⟩ := X
    obtain ⟨N, h⟩ := h v0 hb.1 hp
    exact ⟨N, (f83m N v0).trans (h N (Nat.le_refl N))⟩
theorem e83ok : EntryOk Try.prog 83 e83 := f83ok spec_l1CopyMatrix.ok
end Go.Fw
set_option linter.unusedVariables false
set_option linter.unusedSimpArgs false
set_option maxRecDepth 100000
namespace Go.Fw
open Go.Proofs
/-! ### loop.example/g03115/spec.l1Principal -/
noncomputable def f70sig : Sig := ⟨[⟨.pair (.int .i64) (.pair (.int .i64) (.sl 3 (.int .i64))), true, false⟩], [⟨.pair (.int .i64) (.pair (.int .i64) (.sl 3 (.int .i64))), true, false⟩]⟩
noncomputable def e70 : Entry := ⟨f70sig, (some fun X => spec_l1Principal.P X.1), fun X => ((), ((spec_l1Principal.g X.1), ()))⟩
noncomputable def f70G : Nat → Option Entry := addG (fun _ => none) 83 e83
theorem f70GOk : GOk Try.prog f70G := (GOk.nil).add e83ok (by kernel_rfl)
noncomputable def f70lE : Clean := ⟨[], [], [], [], []⟩
noncomputable def f70s0 (v0 : Int × Int × List Int) : St := initSt f70sig.ps (v0, ())
noncomputable def f70s1 (v1_0 v1_1 : Int) (v1_2 : List Int) (v2_0 v2_1 : Int) : St := stOf [(1, .c (.box 1 0)), (2, .c (.box 2 0))] [(1, (26, [.int .i64 v1_0, .int .i64 v1_1, .sn 3 (.int .i64) v1_2 none])), (2, (26, [.int .i64 v2_0, .int .i64 v2_1, .nil]))] []
noncomputable def f70l1 : Clean := ⟨[1, 2], [1, 2], [], [], []⟩
noncomputable def f70s2 (v3_2 : List Int) (v1_0 v1_1 : Int) (v1_2 : List Int) (v2_0 v2_1 : Int) (v3_0 v3_1 : Int) : St := stOf [(1, .c (.box 1 0)), (2, .c (.box 2 0)), (3, .c (.box 3 0))] [(1, (26, [.int .i64 v1_0, .int .i64 v1_1, .sn 3 (.int .i64) v1_2 none])), (2, (26, [.int .i64 v2_0, .int .i64 v2_1, .nil])), (3, (26, [.int .i64 v3_0, .int .i64 v3_1, .own 20000194]))] [(20000194, (⟨3, .int .i64, v3_2, true, false⟩ : Row))]
noncomputable def f70l2 : Clean := ⟨[1, 2, 3], [1, 2, 3], [], [], [(⟨true, 3, 2⟩, 20000194)]⟩
noncomputable def f70s3 (v3_2 : List Int) (v4 v1_0 v1_1 : Int) (v1_2 : List Int) (v2_0 v2_1 : Int) (v3_0 v3_1 : Int) : St := stOf [(1, .c (.box 1 0)), (2, .c (.box 2 0)), (3, .c (.box 3 0)), (4, .c (.int .i64 v4))] [(1, (26, [.int .i64 v1_0, .int .i64 v1_1, .sn 3 (.int .i64) v1_2 none])), (2, (26, [.int .i64 v2_0, .int .i64 v2_1, .nil])), (3, (26, [.int .i64 v3_0, .int .i64 v3_1, .own 20000194]))] [(20000194, (⟨3, .int .i64, v3_2, true, false⟩ : Row))]
noncomputable def f70l3 : Clean := ⟨[1, 2, 3, 4], [1, 2, 3], [], [], [(⟨true, 3, 2⟩, 20000194)]⟩
noncomputable def f70s4 (v3_2 : List Int) (v2_0 v2_1 : Int) (v3_0 v3_1 : Int) : St := stOf [(2, .c (.box 2 0)), (3, .c (.box 3 0))] [(2, (26, [.int .i64 v2_0, .int .i64 v2_1, .nil])), (3, (26, [.int .i64 v3_0, .int .i64 v3_1, .own 20000194]))] [(20000194, (⟨3, .int .i64, v3_2, true, false⟩ : Row))]
noncomputable def f70l4 : Clean := ⟨[2, 3], [2, 3], [], [], [(⟨true, 3, 2⟩, 20000194)]⟩
noncomputable def f70s5 (v2_2 : List Int) (v2_0 v2_1 : Int) : St := stOf [(2, .c (.box 2 0))] [(2, (26, [.int .i64 v2_0, .int .i64 v2_1, .own 20000130]))] [(20000130, (⟨3, .int .i64, v2_2, true, false⟩ : Row))]
noncomputable def f70l5 : Clean := ⟨[2], [2], [], [], [(⟨true, 2, 2⟩, 20000130)]⟩
noncomputable def f70B : Nat → Option Clean := lookL [(0, f70l4), (1000000, f70l5)]
noncomputable abbrev f70i {ρ : Type} (N : Nat) (c : Code) (p : Plan) (σ : St) (K : KT ρ) : Option ρ := iCode f70G tab f70B N c p σ K
noncomputable def f70c1 := codeAt (bodyOf Try.f70) [0]
theorem f70t1 {ρ : Type} (N : Nat) (v0 : Int × Int × List Int) (K : KT ρ) : f70i N f70c1 .n (f70s0 v0) (joinK (some f70l1) K) =
  spec_l1Principal.Z1 N v0 (fun v1_0 v1_1 v1_2 v2_0 v2_1 => K .nrm (f70s1 v1_0 v1_1 v1_2 v2_0 v2_1)) := by kernel_rfl
noncomputable def f70c3 := codeAt (bodyOf Try.f70) [1,0]
theorem f70t3 {ρ : Type} (N : Nat) (v1_0 v1_1 : Int) (v1_2 : List Int) (v2_0 v2_1 : Int) (K : KT ρ) : f70i N f70c3 .n (f70s1 v1_0 v1_1 v1_2 v2_0 v2_1) (joinK (some f70l2) K) =
  spec_l1Principal.Z3 N v1_0 v1_1 v1_2 v2_0 v2_1 (fun v3_2 v1_0 v1_1 v1_2 v2_0 v2_1 v3_0 v3_1 => K .nrm (f70s2 v3_2 v1_0 v1_1 v1_2 v2_0 v2_1 v3_0 v3_1)) := by kernel_rfl
noncomputable def f70c5 := codeAt (bodyOf Try.f70) [1,1,0]
theorem f70t5 {ρ : Type} (N : Nat) (v3_2 : List Int) (v1_0 v1_1 : Int) (v1_2 : List Int) (v2_0 v2_1 : Int) (v3_0 v3_1 : Int) (K : KT ρ) : f70i N f70c5 .n (f70s2 v3_2 v1_0 v1_1 v1_2 v2_0 v2_1 v3_0 v3_1) (joinK (some f70l2) K) =
  spec_l1Principal.Z5 N v3_2 v1_0 v1_1 v1_2 v2_0 v2_1 v3_0 v3_1 (fun v3_2 v1_0 v1_1 v1_2 v2_0 v2_1 v3_0 v3_1 => K .nrm (f70s2 v3_2 v1_0 v1_1 v1_2 v2_0 v2_1 v3_0 v3_1)) := by kernel_rfl
noncomputable def f70c8 := codeAt (bodyOf Try.f70) [1,1,1,0,0]
theorem f70t8 {ρ : Type} (N : Nat) (v3_2 : List Int) (v1_0 v1_1 : Int) (v1_2 : List Int) (v2_0 v2_1 : Int) (v3_0 v3_1 : Int) (K : KT ρ) : f70i N f70c8 .n (f70s2 v3_2 v1_0 v1_1 v1_2 v2_0 v2_1 v3_0 v3_1) (joinK (some f70l3) K) =
  spec_l1Principal.Z8 N v3_2 v1_0 v1_1 v1_2 v2_0 v2_1 v3_0 v3_1 (fun v3_2 v4 v1_0 v1_1 v1_2 v2_0 v2_1 v3_0 v3_1 => K .nrm (f70s3 v3_2 v4 v1_0 v1_1 v1_2 v2_0 v2_1 v3_0 v3_1)) := by kernel_rfl
noncomputable def f70c11 := codeAt (bodyOf Try.f70) [1,1,1,0,1,0,0]
theorem f70t11 {ρ : Type} (N : Nat) (v3_2 : List Int) (v4 v1_0 v1_1 : Int) (v1_2 : List Int) (v2_0 v2_1 : Int) (v3_0 v3_1 : Int) (K : KT ρ) : f70i N f70c11 .n (f70s3 v3_2 v4 v1_0 v1_1 v1_2 v2_0 v2_1 v3_0 v3_1) (joinK (some f70l3) K) =
  spec_l1Principal.Z11 N v3_2 v4 v1_0 v1_1 v1_2 v2_0 v2_1 v3_0 v3_1 (fun v3_2 v4 v1_0 v1_1 v1_2 v2_0 v2_1 v3_0 v3_1 => K .nrm (f70s3 v3_2 v4 v1_0 v1_1 v1_2 v2_0 v2_1 v3_0 v3_1)) (fun v3_2 v2_0 v2_1 v3_0 v3_1 => K (.exit 0) (f70s4 v3_2 v2_0 v2_1 v3_0 v3_1)) := by kernel_rfl
noncomputable def f70c10 := codeAt (bodyOf Try.f70) [1,1,1,0,1,0]
noncomputable def f70p10 : Plan := .mk none (some f70l3) .n .n
noncomputable abbrev f70w10 {ρ : Type} (N M : Nat) (σ : St) (K : KT ρ) : Option ρ := loopC (fun σ K => f70i N f70c11 .n σ K) f70l3 M σ K
theorem f70t10L {ρ : Type} (N : Nat) (K : KT ρ) : ∀ (M : Nat) (v3_2 : List Int) (v4 v1_0 v1_1 : Int) (v1_2 : List Int) (v2_0 v2_1 : Int) (v3_0 v3_1 : Int), f70w10 N M (f70s3 v3_2 v4 v1_0 v1_1 v1_2 v2_0 v2_1 v3_0 v3_1) K =
  spec_l1Principal.Z10L N (fun v3_2 v2_0 v2_1 v3_0 v3_1 => K (.exit 0) (f70s4 v3_2 v2_0 v2_1 v3_0 v3_1)) M v3_2 v4 v1_0 v1_1 v1_2 v2_0 v2_1 v3_0 v3_1
  | 0, _, _, _, _, _, _, _, _, _ => rfl
  | M + 1, v3_2, v4, v1_0, v1_1, v1_2, v2_0, v2_1, v3_0, v3_1 => viaRound (fun k => spec_l1Principal.Z11 N v3_2 v4 v1_0 v1_1 v1_2 v2_0 v2_1 v3_0 v3_1 k (fun v3_2 v2_0 v2_1 v3_0 v3_1 => K (.exit 0) (f70s4 v3_2 v2_0 v2_1 v3_0 v3_1))) (f70t11 N v3_2 v4 v1_0 v1_1 v1_2 v2_0 v2_1 v3_0 v3_1 (seqK (fun σ => f70w10 N M σ K) K)) (funext fun v3_2 => funext fun v4 => funext fun v1_0 => funext fun v1_1 => funext fun v1_2 => funext fun v2_0 => funext fun v2_1 => funext fun v3_0 => funext fun v3_1 => f70t10L N K M v3_2 v4 v1_0 v1_1 v1_2 v2_0 v2_1 v3_0 v3_1) (by kernel_rfl) (by kernel_rfl)
theorem f70t10 {ρ : Type} (N : Nat) (v3_2 : List Int) (v4 v1_0 v1_1 : Int) (v1_2 : List Int) (v2_0 v2_1 : Int) (v3_0 v3_1 : Int) (K : KT ρ) : f70i N f70c10 f70p10 (f70s3 v3_2 v4 v1_0 v1_1 v1_2 v2_0 v2_1 v3_0 v3_1) (joinK (some f70l4) K) =
  spec_l1Principal.Z10 N v3_2 v4 v1_0 v1_1 v1_2 v2_0 v2_1 v3_0 v3_1 (fun v3_2 v2_0 v2_1 v3_0 v3_1 => K (.exit 0) (f70s4 v3_2 v2_0 v2_1 v3_0 v3_1)) :=
  viaLoop (by kernel_rfl) (by kernel_rfl) (σ' := f70s3 v3_2 v4 v1_0 v1_1 v1_2 v2_0 v2_1 v3_0 v3_1) (by kernel_rfl) (f70t10L N (joinK (some f70l4) K) N v3_2 v4 v1_0 v1_1 v1_2 v2_0 v2_1 v3_0 v3_1) (by kernel_rfl)
noncomputable def f70c9 := codeAt (bodyOf Try.f70) [1,1,1,0,1]
noncomputable def f70p9 : Plan := .mk (some f70l4) none f70p10 .n
theorem f70t9 {ρ : Type} (N : Nat) (v3_2 : List Int) (v4 v1_0 v1_1 : Int) (v1_2 : List Int) (v2_0 v2_1 : Int) (v3_0 v3_1 : Int) (K : KT ρ) : f70i N f70c9 f70p9 (f70s3 v3_2 v4 v1_0 v1_1 v1_2 v2_0 v2_1 v3_0 v3_1) (joinK (some f70l4) K) =
  spec_l1Principal.Z9 N v3_2 v4 v1_0 v1_1 v1_2 v2_0 v2_1 v3_0 v3_1 (fun v3_2 v2_0 v2_1 v3_0 v3_1 => K .nrm (f70s4 v3_2 v2_0 v2_1 v3_0 v3_1)) :=
  viaBlock (by kernel_rfl) (by kernel_rfl) (f70t10 N v3_2 v4 v1_0 v1_1 v1_2 v2_0 v2_1 v3_0 v3_1 (blockK 0 (joinK (some f70l4) K))) (by kernel_rfl)
noncomputable def f70c7 := codeAt (bodyOf Try.f70) [1,1,1,0]
noncomputable def f70p7 : Plan := .mk (some f70l3) none .n f70p9
theorem f70t7 {ρ : Type} (N : Nat) (v3_2 : List Int) (v1_0 v1_1 : Int) (v1_2 : List Int) (v2_0 v2_1 : Int) (v3_0 v3_1 : Int) (K : KT ρ) : f70i N f70c7 f70p7 (f70s2 v3_2 v1_0 v1_1 v1_2 v2_0 v2_1 v3_0 v3_1) (joinK (some f70l4) K) =
  spec_l1Principal.Z7 N v3_2 v1_0 v1_1 v1_2 v2_0 v2_1 v3_0 v3_1 (fun v3_2 v2_0 v2_1 v3_0 v3_1 => K .nrm (f70s4 v3_2 v2_0 v2_1 v3_0 v3_1)) :=
  viaSeq (fun k => spec_l1Principal.Z8 N v3_2 v1_0 v1_1 v1_2 v2_0 v2_1 v3_0 v3_1 k) (by kernel_rfl) (by kernel_rfl) (f70t8 N v3_2 v1_0 v1_1 v1_2 v2_0 v2_1 v3_0 v3_1 (seqK (fun σ => f70i N f70c9 f70p9 σ (joinK (some f70l4) K)) (joinK (some f70l4) K))) (funext fun v3_2 => funext fun v4 => funext fun v1_0 => funext fun v1_1 => funext fun v1_2 => funext fun v2_0 => funext fun v2_1 => funext fun v3_0 => funext fun v3_1 => f70t9 N v3_2 v4 v1_0 v1_1 v1_2 v2_0 v2_1 v3_0 v3_1 K) (by kernel_rfl) (by kernel_rfl)
noncomputable def f70c12 := codeAt (bodyOf Try.f70) [1,1,1,1]
theorem f70t12 {ρ : Type} (N : Nat) (v3_2 : List Int) (v2_0 v2_1 : Int) (v3_0 v3_1 : Int) (K : KT ρ) : f70i N f70c12 .n (f70s4 v3_2 v2_0 v2_1 v3_0 v3_1) (joinK (some f70lE) K) =
  spec_l1Principal.Z12 N v3_2 v2_0 v2_1 v3_0 v3_1 (fun v2_2 v2_0 v2_1 => K .ret (f70s5 v2_2 v2_0 v2_1)) := by kernel_rfl
noncomputable def f70c6 := codeAt (bodyOf Try.f70) [1,1,1]
noncomputable def f70p6 : Plan := .mk (some f70l4) none f70p7 .n
theorem f70t6 {ρ : Type} (N : Nat) (v3_2 : List Int) (v1_0 v1_1 : Int) (v1_2 : List Int) (v2_0 v2_1 : Int) (v3_0 v3_1 : Int) (K : KT ρ) : f70i N f70c6 f70p6 (f70s2 v3_2 v1_0 v1_1 v1_2 v2_0 v2_1 v3_0 v3_1) (joinK (some f70lE) K) =
  spec_l1Principal.Z6 N v3_2 v1_0 v1_1 v1_2 v2_0 v2_1 v3_0 v3_1 (fun v2_2 v2_0 v2_1 => K .ret (f70s5 v2_2 v2_0 v2_1)) :=
  viaSeq (fun k => spec_l1Principal.Z7 N v3_2 v1_0 v1_1 v1_2 v2_0 v2_1 v3_0 v3_1 k) (by kernel_rfl) (by kernel_rfl) (f70t7 N v3_2 v1_0 v1_1 v1_2 v2_0 v2_1 v3_0 v3_1 (seqK (fun σ => f70i N f70c12 .n σ (joinK (some f70lE) K)) (joinK (some f70lE) K))) (funext fun v3_2 => funext fun v2_0 => funext fun v2_1 => funext fun v3_0 => funext fun v3_1 => f70t12 N v3_2 v2_0 v2_1 v3_0 v3_1 K) (by kernel_rfl) (by kernel_rfl)
noncomputable def f70c4 := codeAt (bodyOf Try.f70) [1,1]
noncomputable def f70p4 : Plan := .mk (some f70l2) none .n f70p6
theorem f70t4 {ρ : Type} (N : Nat) (v3_2 : List Int) (v1_0 v1_1 : Int) (v1_2 : List Int) (v2_0 v2_1 : Int) (v3_0 v3_1 : Int) (K : KT ρ) : f70i N f70c4 f70p4 (f70s2 v3_2 v1_0 v1_1 v1_2 v2_0 v2_1 v3_0 v3_1) (joinK (some f70lE) K) =
  spec_l1Principal.Z4 N v3_2 v1_0 v1_1 v1_2 v2_0 v2_1 v3_0 v3_1 (fun v2_2 v2_0 v2_1 => K .ret (f70s5 v2_2 v2_0 v2_1)) :=
  viaSeq (fun k => spec_l1Principal.Z5 N v3_2 v1_0 v1_1 v1_2 v2_0 v2_1 v3_0 v3_1 k) (by kernel_rfl) (by kernel_rfl) (f70t5 N v3_2 v1_0 v1_1 v1_2 v2_0 v2_1 v3_0 v3_1 (seqK (fun σ => f70i N f70c6 f70p6 σ (joinK (some f70lE) K)) (joinK (some f70lE) K))) (funext fun v3_2 => funext fun v1_0 => funext fun v1_1 => funext fun v1_2 => funext fun v2_0 => funext fun v2_1 => funext fun v3_0 => funext fun v3_1 => f70t6 N v3_2 v1_0 v1_1 v1_2 v2_0 v2_1 v3_0 v3_1 K) (by kernel_rfl) (by kernel_rfl)
noncomputable def f70c2 := codeAt (bodyOf Try.f70) [1]
noncomputable def f70p2 : Plan := .mk (some f70l2) none .n f70p4
theorem f70t2 {ρ : Type} (N : Nat) (v1_0 v1_1 : Int) (v1_2 : List Int) (v2_0 v2_1 : Int) (K : KT ρ) : f70i N f70c2 f70p2 (f70s1 v1_0 v1_1 v1_2 v2_0 v2_1) (joinK (some f70lE) K) =
  spec_l1Principal.Z2 N v1_0 v1_1 v1_2 v2_0 v2_1 (fun v2_2 v2_0 v2_1 => K .ret (f70s5 v2_2 v2_0 v2_1)) :=
  viaSeq (fun k => spec_l1Principal.Z3 N v1_0 v1_1 v1_2 v2_0 v2_1 k) (by kernel_rfl) (by kernel_rfl) (f70t3 N v1_0 v1_1 v1_2 v2_0 v2_1 (seqK (fun σ => f70i N f70c4 f70p4 σ (joinK (some f70lE) K)) (joinK (some f70lE) K))) (funext fun v3_2 => funext fun v1_0 => funext fun v1_1 => funext fun v1_2 => funext fun v2_0 => funext fun v2_1 => funext fun v3_0 => funext fun v3_1 => f70t4 N v3_2 v1_0 v1_1 v1_2 v2_0 v2_1 v3_0 v3_1 K) (by kernel_rfl) (by kernel_rfl)
noncomputable def f70c0 := codeAt (bodyOf Try.f70) []
noncomputable def f70p0 : Plan := .mk (some f70l1) none .n f70p2
theorem f70t0 {ρ : Type} (N : Nat) (v0 : Int × Int × List Int) (K : KT ρ) : f70i N f70c0 f70p0 (f70s0 v0) (joinK (some f70lE) K) =
  spec_l1Principal.Z0 N v0 (fun v2_2 v2_0 v2_1 => K .ret (f70s5 v2_2 v2_0 v2_1)) :=
  viaSeq (fun k => spec_l1Principal.Z1 N v0 k) (by kernel_rfl) (by kernel_rfl) (f70t1 N v0 (seqK (fun σ => f70i N f70c2 f70p2 σ (joinK (some f70lE) K)) (joinK (some f70lE) K))) (funext fun v1_0 => funext fun v1_1 => funext fun v1_2 => funext fun v2_0 => funext fun v2_1 => f70t2 N v1_0 v1_1 v1_2 v2_0 v2_1 K) (by kernel_rfl) (by kernel_rfl)
theorem f70m (N : Nat) (v0 : Int × Int × List Int) : f70i N f70c0 f70p0 (f70s0 v0) (joinK (some f70lE) (finK tab f70sig Try.f70.results.toList)) = spec_l1Principal.Z0 N v0 (fun v2_2 v2_0 v2_1 => some ((), ((v2_0, (v2_1, v2_2)), ()))) :=
  (f70t0 N v0 (finK tab f70sig Try.f70.results.toList)).trans (by kernel_rfl)
theorem f70ok (h : spec_l1Principal.Spec) : EntryOk Try.prog 70 e70 :=
  entry_of_code (sig := f70sig) (c := f70c0) (pl := f70p0) (je := (some f70lE)) (B := f70B) Try.func70 (by kernel_rfl) (by kernel_rfl) (by kernel_rfl) tabOk f70GOk (by kernel_rfl) (by kernel_rfl) (by kernel_rfl) (by kernel_rfl) fun X hb hp => by
    obtain ⟨v0, _⟩ := X
    obtain ⟨N, h⟩ := h v0 hb.1 hp
    exact ⟨N, (f70m N v0).trans (h N (Nat.le_refl N))⟩
theorem e70ok : EntryOk Try.prog 70 e70 := f70ok spec_l1Principal.ok
end Go.Fw
set_option linter.unusedVariables false
set_option linter.unusedSimpArgs false
set_option maxRecDepth 100000
namespace Go.Fw
open Go.Proofs
/-! ### loop.example/g03115/spec.l1Mutate -/
noncomputable def f77sig : Sig := ⟨[⟨.pair (.int .i64) (.pair (.int .i64) (.sl 3 (.int .i64))), true, false⟩, ⟨.int .i64, false, false⟩], [⟨.pair (.int .i64) (.pair (.int .i64) (.sl 3 (.int .i64))), true, false⟩]⟩
noncomputable def e77 : Entry := ⟨f77sig, (some fun X => spec_l1Mutate.P X.1 X.2.1), fun X => ((), ((spec_l1Mutate.g X.1 X.2.1), ()))⟩
noncomputable def f77G : Nat → Option Entry := addG (addG (fun _ => none) 75 e75) 83 e83
theorem f77GOk : GOk Try.prog f77G := ((GOk.nil).add e75ok (by kernel_rfl)).add e83ok (by kernel_rfl)
noncomputable def f77lE : Clean := ⟨[], [], [], [], []⟩
noncomputable def f77s0 (v0 : Int × Int × List Int) (v1 : Int) : St := initSt f77sig.ps (v0, (v1, ()))
noncomputable def f77s1 (v1 v2_0 v2_1 : Int) (v2_2 : List Int) (v4_0 v4_1 : Int) : St := stOf [(1, .c (.int .i64 v1)), (2, .c (.box 2 0)), (4, .c (.box 4 0))] [(2, (26, [.int .i64 v2_0, .int .i64 v2_1, .sn 3 (.int .i64) v2_2 none])), (4, (26, [.int .i64 v4_0, .int .i64 v4_1, .nil]))] []
noncomputable def f77l1 : Clean := ⟨[1, 2, 4], [2, 4], [], [], []⟩
noncomputable def f77s2 (v5_2 : List Int) (v1 v2_0 v2_1 : Int) (v2_2 : List Int) (v4_0 v4_1 : Int) (v5_0 v5_1 : Int) : St := stOf [(1, .c (.int .i64 v1)), (2, .c (.box 2 0)), (4, .c (.box 4 0)), (5, .c (.box 5 0))] [(2, (26, [.int .i64 v2_0, .int .i64 v2_1, .sn 3 (.int .i64) v2_2 none])), (4, (26, [.int .i64 v4_0, .int .i64 v4_1, .nil])), (5, (26, [.int .i64 v5_0, .int .i64 v5_1, .own 20000322]))] [(20000322, (⟨3, .int .i64, v5_2, true, false⟩ : Row))]
noncomputable def f77l2 : Clean := ⟨[1, 2, 4, 5], [2, 4, 5], [], [], [(⟨true, 5, 2⟩, 20000322)]⟩
noncomputable def f77s3 (v5_2 : List Int) (v1 v6 : Int) (v2_0 v2_1 : Int) (v2_2 : List Int) (v4_0 v4_1 : Int) (v5_0 v5_1 : Int) : St := stOf [(1, .c (.int .i64 v1)), (2, .c (.box 2 0)), (4, .c (.box 4 0)), (5, .c (.box 5 0)), (6, .c (.int .i64 v6))] [(2, (26, [.int .i64 v2_0, .int .i64 v2_1, .sn 3 (.int .i64) v2_2 none])), (4, (26, [.int .i64 v4_0, .int .i64 v4_1, .nil])), (5, (26, [.int .i64 v5_0, .int .i64 v5_1, .own 20000322]))] [(20000322, (⟨3, .int .i64, v5_2, true, false⟩ : Row))]
noncomputable def f77l3 : Clean := ⟨[1, 2, 4, 5, 6], [2, 4, 5], [], [], [(⟨true, 5, 2⟩, 20000322)]⟩
noncomputable def f77s4 (v5_2 : List Int) (v1 v6 : Int) (v7 v2_0 v2_1 : Int) (v2_2 : List Int) (v4_0 v4_1 : Int) (v5_0 v5_1 : Int) : St := stOf [(1, .c (.int .i64 v1)), (2, .c (.box 2 0)), (4, .c (.box 4 0)), (5, .c (.box 5 0)), (6, .c (.int .i64 v6)), (7, .c (.int .i64 v7))] [(2, (26, [.int .i64 v2_0, .int .i64 v2_1, .sn 3 (.int .i64) v2_2 none])), (4, (26, [.int .i64 v4_0, .int .i64 v4_1, .nil])), (5, (26, [.int .i64 v5_0, .int .i64 v5_1, .own 20000322]))] [(20000322, (⟨3, .int .i64, v5_2, true, false⟩ : Row))]
noncomputable def f77l4 : Clean := ⟨[1, 2, 4, 5, 6, 7], [2, 4, 5], [], [], [(⟨true, 5, 2⟩, 20000322)]⟩
noncomputable def f77s5 (v5_2 : List Int) (v1 v6 : Int) (v7 v8 : Int) (v2_0 v2_1 : Int) (v2_2 : List Int) (v4_0 v4_1 : Int) (v5_0 v5_1 : Int) : St := stOf [(1, .c (.int .i64 v1)), (2, .c (.box 2 0)), (4, .c (.box 4 0)), (5, .c (.box 5 0)), (6, .c (.int .i64 v6)), (7, .c (.int .i64 v7)), (8, .c (.int .i64 v8))] [(2, (26, [.int .i64 v2_0, .int .i64 v2_1, .sn 3 (.int .i64) v2_2 none])), (4, (26, [.int .i64 v4_0, .int .i64 v4_1, .nil])), (5, (26, [.int .i64 v5_0, .int .i64 v5_1, .own 20000322]))] [(20000322, (⟨3, .int .i64, v5_2, true, false⟩ : Row))]
noncomputable def f77l5 : Clean := ⟨[1, 2, 4, 5, 6, 7, 8], [2, 4, 5], [], [], [(⟨true, 5, 2⟩, 20000322)]⟩
noncomputable def f77s6 (v5_2 : List Int) (v1 v6 : Int) (v7 v8 : Int) (v9 v2_0 v2_1 : Int) (v2_2 : List Int) (v4_0 v4_1 : Int) (v5_0 v5_1 : Int) : St := stOf [(1, .c (.int .i64 v1)), (2, .c (.box 2 0)), (4, .c (.box 4 0)), (5, .c (.box 5 0)), (6, .c (.int .i64 v6)), (7, .c (.int .i64 v7)), (8, .c (.int .i64 v8)), (9, .c (.int .i64 v9))] [(2, (26, [.int .i64 v2_0, .int .i64 v2_1, .sn 3 (.int .i64) v2_2 none])), (4, (26, [.int .i64 v4_0, .int .i64 v4_1, .nil])), (5, (26, [.int .i64 v5_0, .int .i64 v5_1, .own 20000322]))] [(20000322, (⟨3, .int .i64, v5_2, true, false⟩ : Row))]
noncomputable def f77l6 : Clean := ⟨[1, 2, 4, 5, 6, 7, 8, 9], [2, 4, 5], [], [], [(⟨true, 5, 2⟩, 20000322)]⟩
noncomputable def f77s7 (v5_2 : List Int) (v1 v6 : Int) (v7 v8 v9 : Int) (v32 : Bool) (v2_0 v2_1 : Int) (v2_2 : List Int) (v4_0 v4_1 : Int) (v5_0 v5_1 : Int) : St := stOf [(1, .c (.int .i64 v1)), (2, .c (.box 2 0)), (4, .c (.box 4 0)), (5, .c (.box 5 0)), (6, .c (.int .i64 v6)), (7, .c (.int .i64 v7)), (8, .c (.int .i64 v8)), (9, .c (.int .i64 v9)), (32, .c (.bool v32))] [(2, (26, [.int .i64 v2_0, .int .i64 v2_1, .sn 3 (.int .i64) v2_2 none])), (4, (26, [.int .i64 v4_0, .int .i64 v4_1, .nil])), (5, (26, [.int .i64 v5_0, .int .i64 v5_1, .own 20000322]))] [(20000322, (⟨3, .int .i64, v5_2, true, false⟩ : Row))]
noncomputable def f77l7 : Clean := ⟨[1, 2, 4, 5, 6, 7, 8, 9, 32], [2, 4, 5], [], [], [(⟨true, 5, 2⟩, 20000322)]⟩
noncomputable def f77s8 (v5_2 : List Int) (v4_0 v4_1 : Int) (v5_0 v5_1 : Int) : St := stOf [(4, .c (.box 4 0)), (5, .c (.box 5 0))] [(4, (26, [.int .i64 v4_0, .int .i64 v4_1, .nil])), (5, (26, [.int .i64 v5_0, .int .i64 v5_1, .own 20000322]))] [(20000322, (⟨3, .int .i64, v5_2, true, false⟩ : Row))]
noncomputable def f77l8 : Clean := ⟨[4, 5], [4, 5], [], [], [(⟨true, 5, 2⟩, 20000322)]⟩
noncomputable def f77s9 (v4_2 : List Int) (v4_0 v4_1 : Int) : St := stOf [(4, .c (.box 4 0))] [(4, (26, [.int .i64 v4_0, .int .i64 v4_1, .own 20000258]))] [(20000258, (⟨3, .int .i64, v4_2, true, false⟩ : Row))]
noncomputable def f77l9 : Clean := ⟨[4], [4], [], [], [(⟨true, 4, 2⟩, 20000258)]⟩
noncomputable def f77B : Nat → Option Clean := lookL [(4, f77l4), (3, f77l4), (2, f77l3), (1, f77l3), (0, f77l8), (1000000, f77l9)]
noncomputable abbrev f77i {ρ : Type} (N : Nat) (c : Code) (p : Plan) (σ : St) (K : KT ρ) : Option ρ := iCode f77G tab f77B N c p σ K
noncomputable def f77c1 := codeAt (bodyOf Try.f77) [0]
theorem f77t1 {ρ : Type} (N : Nat) (v0 : Int × Int × List Int) (v1 : Int) (K : KT ρ) : f77i N f77c1 .n (f77s0 v0 v1) (joinK (some f77l1) K) =
  spec_l1Mutate.Z1 N v0 v1 (fun v1 v2_0 v2_1 v2_2 v4_0 v4_1 => K .nrm (f77s1 v1 v2_0 v2_1 v2_2 v4_0 v4_1)) := by kernel_rfl
noncomputable def f77c3 := codeAt (bodyOf Try.f77) [1,0]
theorem f77t3 {ρ : Type} (N : Nat) (v1 v2_0 v2_1 : Int) (v2_2 : List Int) (v4_0 v4_1 : Int) (K : KT ρ) : f77i N f77c3 .n (f77s1 v1 v2_0 v2_1 v2_2 v4_0 v4_1) (joinK (some f77l2) K) =
  spec_l1Mutate.Z3 N v1 v2_0 v2_1 v2_2 v4_0 v4_1 (fun v5_2 v1 v2_0 v2_1 v2_2 v4_0 v4_1 v5_0 v5_1 => K .nrm (f77s2 v5_2 v1 v2_0 v2_1 v2_2 v4_0 v4_1 v5_0 v5_1)) := by kernel_rfl
noncomputable def f77c6 := codeAt (bodyOf Try.f77) [1,1,0,0]
theorem f77t6 {ρ : Type} (N : Nat) (v5_2 : List Int) (v1 v2_0 v2_1 : Int) (v2_2 : List Int) (v4_0 v4_1 : Int) (v5_0 v5_1 : Int) (K : KT ρ) : f77i N f77c6 .n (f77s2 v5_2 v1 v2_0 v2_1 v2_2 v4_0 v4_1 v5_0 v5_1) (joinK (some f77l3) K) =
  spec_l1Mutate.Z6 N v5_2 v1 v2_0 v2_1 v2_2 v4_0 v4_1 v5_0 v5_1 (fun v5_2 v1 v6 v2_0 v2_1 v2_2 v4_0 v4_1 v5_0 v5_1 => K .nrm (f77s3 v5_2 v1 v6 v2_0 v2_1 v2_2 v4_0 v4_1 v5_0 v5_1)) := by kernel_rfl
noncomputable def f77c10 := codeAt (bodyOf Try.f77) [1,1,0,1,0,0,0]
theorem f77t10 {ρ : Type} (N : Nat) (v5_2 : List Int) (v1 v6 : Int) (v2_0 v2_1 : Int) (v2_2 : List Int) (v4_0 v4_1 : Int) (v5_0 v5_1 : Int) (K : KT ρ) : f77i N f77c10 .n (f77s3 v5_2 v1 v6 v2_0 v2_1 v2_2 v4_0 v4_1 v5_0 v5_1) (joinK (some f77l3) K) =
  spec_l1Mutate.Z10 N v5_2 v1 v6 v2_0 v2_1 v2_2 v4_0 v4_1 v5_0 v5_1 (fun v5_2 v1 v6 v2_0 v2_1 v2_2 v4_0 v4_1 v5_0 v5_1 => K .nrm (f77s3 v5_2 v1 v6 v2_0 v2_1 v2_2 v4_0 v4_1 v5_0 v5_1)) (fun v5_2 v4_0 v4_1 v5_0 v5_1 => K (.exit 0) (f77s8 v5_2 v4_0 v4_1 v5_0 v5_1)) := by kernel_rfl
noncomputable def f77c14 := codeAt (bodyOf Try.f77) [1,1,0,1,0,0,1,0,0,0]
theorem f77t14 {ρ : Type} (N : Nat) (v5_2 : List Int) (v1 v6 : Int) (v2_0 v2_1 : Int) (v2_2 : List Int) (v4_0 v4_1 : Int) (v5_0 v5_1 : Int) (K : KT ρ) : f77i N f77c14 .n (f77s3 v5_2 v1 v6 v2_0 v2_1 v2_2 v4_0 v4_1 v5_0 v5_1) (joinK (some f77l4) K) =
  spec_l1Mutate.Z14 N v5_2 v1 v6 v2_0 v2_1 v2_2 v4_0 v4_1 v5_0 v5_1 (fun v5_2 v1 v6 v7 v2_0 v2_1 v2_2 v4_0 v4_1 v5_0 v5_1 => K .nrm (f77s4 v5_2 v1 v6 v7 v2_0 v2_1 v2_2 v4_0 v4_1 v5_0 v5_1)) := by kernel_rfl
noncomputable def f77c18 := codeAt (bodyOf Try.f77) [1,1,0,1,0,0,1,0,0,1,0,0,0]
theorem f77t18 {ρ : Type} (N : Nat) (v5_2 : List Int) (v1 v6 : Int) (v7 v2_0 v2_1 : Int) (v2_2 : List Int) (v4_0 v4_1 : Int) (v5_0 v5_1 : Int) (K : KT ρ) : f77i N f77c18 .n (f77s4 v5_2 v1 v6 v7 v2_0 v2_1 v2_2 v4_0 v4_1 v5_0 v5_1) (joinK (some f77l4) K) =
  spec_l1Mutate.Z18 N v5_2 v1 v6 v7 v2_0 v2_1 v2_2 v4_0 v4_1 v5_0 v5_1 (fun v5_2 v1 v6 v7 v2_0 v2_1 v2_2 v4_0 v4_1 v5_0 v5_1 => K .nrm (f77s4 v5_2 v1 v6 v7 v2_0 v2_1 v2_2 v4_0 v4_1 v5_0 v5_1)) (fun v5_2 v1 v6 v2_0 v2_1 v2_2 v4_0 v4_1 v5_0 v5_1 => K (.exit 2) (f77s3 v5_2 v1 v6 v2_0 v2_1 v2_2 v4_0 v4_1 v5_0 v5_1)) := by kernel_rfl
noncomputable def f77c22 := codeAt (bodyOf Try.f77) [1,1,0,1,0,0,1,0,0,1,0,0,1,0,0,0]
theorem f77t22 {ρ : Type} (N : Nat) (v5_2 : List Int) (v1 v6 : Int) (v7 v2_0 v2_1 : Int) (v2_2 : List Int) (v4_0 v4_1 : Int) (v5_0 v5_1 : Int) (K : KT ρ) : f77i N f77c22 .n (f77s4 v5_2 v1 v6 v7 v2_0 v2_1 v2_2 v4_0 v4_1 v5_0 v5_1) (joinK (some f77l5) K) =
  spec_l1Mutate.Z22 N v5_2 v1 v6 v7 v2_0 v2_1 v2_2 v4_0 v4_1 v5_0 v5_1 (fun v5_2 v1 v6 v7 v8 v2_0 v2_1 v2_2 v4_0 v4_1 v5_0 v5_1 => K .nrm (f77s5 v5_2 v1 v6 v7 v8 v2_0 v2_1 v2_2 v4_0 v4_1 v5_0 v5_1)) := by kernel_rfl
noncomputable def f77c24 := codeAt (bodyOf Try.f77) [1,1,0,1,0,0,1,0,0,1,0,0,1,0,0,1,0]
theorem f77t24 {ρ : Type} (N : Nat) (v5_2 : List Int) (v1 v6 : Int) (v7 v8 : Int) (v2_0 v2_1 : Int) (v2_2 : List Int) (v4_0 v4_1 : Int) (v5_0 v5_1 : Int) (K : KT ρ) : f77i N f77c24 .n (f77s5 v5_2 v1 v6 v7 v8 v2_0 v2_1 v2_2 v4_0 v4_1 v5_0 v5_1) (joinK (some f77l6) K) =
  spec_l1Mutate.Z24 N v5_2 v1 v6 v7 v8 v2_0 v2_1 v2_2 v4_0 v4_1 v5_0 v5_1 (fun v5_2 v1 v6 v7 v8 v9 v2_0 v2_1 v2_2 v4_0 v4_1 v5_0 v5_1 => K .nrm (f77s6 v5_2 v1 v6 v7 v8 v9 v2_0 v2_1 v2_2 v4_0 v4_1 v5_0 v5_1)) := by kernel_rfl
noncomputable def f77c27 := codeAt (bodyOf Try.f77) [1,1,0,1,0,0,1,0,0,1,0,0,1,0,0,1,1,0,0]
theorem f77t27 {ρ : Type} (N : Nat) (v5_2 : List Int) (v1 v6 : Int) (v7 v8 : Int) (v9 v2_0 v2_1 : Int) (v2_2 : List Int) (v4_0 v4_1 : Int) (v5_0 v5_1 : Int) (K : KT ρ) : f77i N f77c27 .n (f77s6 v5_2 v1 v6 v7 v8 v9 v2_0 v2_1 v2_2 v4_0 v4_1 v5_0 v5_1) (joinK (some f77l7) K) =
  spec_l1Mutate.Z27 N v5_2 v1 v6 v7 v8 v9 v2_0 v2_1 v2_2 v4_0 v4_1 v5_0 v5_1 (fun v5_2 v1 v6 v7 v8 v9 v32 v2_0 v2_1 v2_2 v4_0 v4_1 v5_0 v5_1 => K .nrm (f77s7 v5_2 v1 v6 v7 v8 v9 v32 v2_0 v2_1 v2_2 v4_0 v4_1 v5_0 v5_1)) := by kernel_rfl
noncomputable def f77c28 := codeAt (bodyOf Try.f77) [1,1,0,1,0,0,1,0,0,1,0,0,1,0,0,1,1,0,1]
theorem f77t28 {ρ : Type} (N : Nat) (v5_2 : List Int) (v1 v6 : Int) (v7 v8 v9 : Int) (v32 : Bool) (v2_0 v2_1 : Int) (v2_2 : List Int) (v4_0 v4_1 : Int) (v5_0 v5_1 : Int) (K : KT ρ) : f77i N f77c28 .n (f77s7 v5_2 v1 v6 v7 v8 v9 v32 v2_0 v2_1 v2_2 v4_0 v4_1 v5_0 v5_1) (joinK (some f77l4) K) =
  spec_l1Mutate.Z28 N v5_2 v1 v6 v7 v8 v9 v32 v2_0 v2_1 v2_2 v4_0 v4_1 v5_0 v5_1 (fun v5_2 v1 v6 v7 v2_0 v2_1 v2_2 v4_0 v4_1 v5_0 v5_1 => K .nrm (f77s4 v5_2 v1 v6 v7 v2_0 v2_1 v2_2 v4_0 v4_1 v5_0 v5_1)) := by kernel_rfl
noncomputable def f77c26 := codeAt (bodyOf Try.f77) [1,1,0,1,0,0,1,0,0,1,0,0,1,0,0,1,1,0]
noncomputable def f77p26 : Plan := .mk (some f77l7) none .n .n
theorem f77t26 {ρ : Type} (N : Nat) (v5_2 : List Int) (v1 v6 : Int) (v7 v8 : Int) (v9 v2_0 v2_1 : Int) (v2_2 : List Int) (v4_0 v4_1 : Int) (v5_0 v5_1 : Int) (K : KT ρ) : f77i N f77c26 f77p26 (f77s6 v5_2 v1 v6 v7 v8 v9 v2_0 v2_1 v2_2 v4_0 v4_1 v5_0 v5_1) (joinK (some f77l4) K) =
  spec_l1Mutate.Z26 N v5_2 v1 v6 v7 v8 v9 v2_0 v2_1 v2_2 v4_0 v4_1 v5_0 v5_1 (fun v5_2 v1 v6 v7 v2_0 v2_1 v2_2 v4_0 v4_1 v5_0 v5_1 => K .nrm (f77s4 v5_2 v1 v6 v7 v2_0 v2_1 v2_2 v4_0 v4_1 v5_0 v5_1)) :=
  viaSeq (fun k => spec_l1Mutate.Z27 N v5_2 v1 v6 v7 v8 v9 v2_0 v2_1 v2_2 v4_0 v4_1 v5_0 v5_1 k) (by kernel_rfl) (by kernel_rfl) (f77t27 N v5_2 v1 v6 v7 v8 v9 v2_0 v2_1 v2_2 v4_0 v4_1 v5_0 v5_1 (seqK (fun σ => f77i N f77c28 .n σ (joinK (some f77l4) K)) (joinK (some f77l4) K))) (funext fun v5_2 => funext fun v1 => funext fun v6 => funext fun v7 => funext fun v8 => funext fun v9 => funext fun v32 => funext fun v2_0 => funext fun v2_1 => funext fun v2_2 => funext fun v4_0 => funext fun v4_1 => funext fun v5_0 => funext fun v5_1 => f77t28 N v5_2 v1 v6 v7 v8 v9 v32 v2_0 v2_1 v2_2 v4_0 v4_1 v5_0 v5_1 K) (by kernel_rfl) (by kernel_rfl)
noncomputable def f77c25 := codeAt (bodyOf Try.f77) [1,1,0,1,0,0,1,0,0,1,0,0,1,0,0,1,1]
noncomputable def f77p25 : Plan := .mk (some f77l4) none f77p26 .n
theorem f77t25 {ρ : Type} (N : Nat) (v5_2 : List Int) (v1 v6 : Int) (v7 v8 : Int) (v9 v2_0 v2_1 : Int) (v2_2 : List Int) (v4_0 v4_1 : Int) (v5_0 v5_1 : Int) (K : KT ρ) : f77i N f77c25 f77p25 (f77s6 v5_2 v1 v6 v7 v8 v9 v2_0 v2_1 v2_2 v4_0 v4_1 v5_0 v5_1) (joinK (some f77l4) K) =
  spec_l1Mutate.Z25 N v5_2 v1 v6 v7 v8 v9 v2_0 v2_1 v2_2 v4_0 v4_1 v5_0 v5_1 (fun v5_2 v1 v6 v7 v2_0 v2_1 v2_2 v4_0 v4_1 v5_0 v5_1 => K .nrm (f77s4 v5_2 v1 v6 v7 v2_0 v2_1 v2_2 v4_0 v4_1 v5_0 v5_1)) :=
  viaBlock (by kernel_rfl) (by kernel_rfl) (f77t26 N v5_2 v1 v6 v7 v8 v9 v2_0 v2_1 v2_2 v4_0 v4_1 v5_0 v5_1 (blockK 4 (joinK (some f77l4) K))) (by kernel_rfl)
noncomputable def f77c23 := codeAt (bodyOf Try.f77) [1,1,0,1,0,0,1,0,0,1,0,0,1,0,0,1]
noncomputable def f77p23 : Plan := .mk (some f77l6) none .n f77p25
theorem f77t23 {ρ : Type} (N : Nat) (v5_2 : List Int) (v1 v6 : Int) (v7 v8 : Int) (v2_0 v2_1 : Int) (v2_2 : List Int) (v4_0 v4_1 : Int) (v5_0 v5_1 : Int) (K : KT ρ) : f77i N f77c23 f77p23 (f77s5 v5_2 v1 v6 v7 v8 v2_0 v2_1 v2_2 v4_0 v4_1 v5_0 v5_1) (joinK (some f77l4) K) =
  spec_l1Mutate.Z23 N v5_2 v1 v6 v7 v8 v2_0 v2_1 v2_2 v4_0 v4_1 v5_0 v5_1 (fun v5_2 v1 v6 v7 v2_0 v2_1 v2_2 v4_0 v4_1 v5_0 v5_1 => K .nrm (f77s4 v5_2 v1 v6 v7 v2_0 v2_1 v2_2 v4_0 v4_1 v5_0 v5_1)) :=
  viaSeq (fun k => spec_l1Mutate.Z24 N v5_2 v1 v6 v7 v8 v2_0 v2_1 v2_2 v4_0 v4_1 v5_0 v5_1 k) (by kernel_rfl) (by kernel_rfl) (f77t24 N v5_2 v1 v6 v7 v8 v2_0 v2_1 v2_2 v4_0 v4_1 v5_0 v5_1 (seqK (fun σ => f77i N f77c25 f77p25 σ (joinK (some f77l4) K)) (joinK (some f77l4) K))) (funext fun v5_2 => funext fun v1 => funext fun v6 => funext fun v7 => funext fun v8 => funext fun v9 => funext fun v2_0 => funext fun v2_1 => funext fun v2_2 => funext fun v4_0 => funext fun v4_1 => funext fun v5_0 => funext fun v5_1 => f77t25 N v5_2 v1 v6 v7 v8 v9 v2_0 v2_1 v2_2 v4_0 v4_1 v5_0 v5_1 K) (by kernel_rfl) (by kernel_rfl)
noncomputable def f77c21 := codeAt (bodyOf Try.f77) [1,1,0,1,0,0,1,0,0,1,0,0,1,0,0]
noncomputable def f77p21 : Plan := .mk (some f77l5) none .n f77p23
theorem f77t21 {ρ : Type} (N : Nat) (v5_2 : List Int) (v1 v6 : Int) (v7 v2_0 v2_1 : Int) (v2_2 : List Int) (v4_0 v4_1 : Int) (v5_0 v5_1 : Int) (K : KT ρ) : f77i N f77c21 f77p21 (f77s4 v5_2 v1 v6 v7 v2_0 v2_1 v2_2 v4_0 v4_1 v5_0 v5_1) (joinK (some f77l4) K) =
  spec_l1Mutate.Z21 N v5_2 v1 v6 v7 v2_0 v2_1 v2_2 v4_0 v4_1 v5_0 v5_1 (fun v5_2 v1 v6 v7 v2_0 v2_1 v2_2 v4_0 v4_1 v5_0 v5_1 => K .nrm (f77s4 v5_2 v1 v6 v7 v2_0 v2_1 v2_2 v4_0 v4_1 v5_0 v5_1)) :=
  viaSeq (fun k => spec_l1Mutate.Z22 N v5_2 v1 v6 v7 v2_0 v2_1 v2_2 v4_0 v4_1 v5_0 v5_1 k) (by kernel_rfl) (by kernel_rfl) (f77t22 N v5_2 v1 v6 v7 v2_0 v2_1 v2_2 v4_0 v4_1 v5_0 v5_1 (seqK (fun σ => f77i N f77c23 f77p23 σ (joinK (some f77l4) K)) (joinK (some f77l4) K))) (funext fun v5_2 => funext fun v1 => funext fun v6 => funext fun v7 => funext fun v8 => funext fun v2_0 => funext fun v2_1 => funext fun v2_2 => funext fun v4_0 => funext fun v4_1 => funext fun v5_0 => funext fun v5_1 => f77t23 N v5_2 v1 v6 v7 v8 v2_0 v2_1 v2_2 v4_0 v4_1 v5_0 v5_1 K) (by kernel_rfl) (by kernel_rfl)
noncomputable def f77c20 := codeAt (bodyOf Try.f77) [1,1,0,1,0,0,1,0,0,1,0,0,1,0]
noncomputable def f77p20 : Plan := .mk (some f77l4) none f77p21 .n
theorem f77t20 {ρ : Type} (N : Nat) (v5_2 : List Int) (v1 v6 : Int) (v7 v2_0 v2_1 : Int) (v2_2 : List Int) (v4_0 v4_1 : Int) (v5_0 v5_1 : Int) (K : KT ρ) : f77i N f77c20 f77p20 (f77s4 v5_2 v1 v6 v7 v2_0 v2_1 v2_2 v4_0 v4_1 v5_0 v5_1) (joinK (some f77l4) K) =
  spec_l1Mutate.Z20 N v5_2 v1 v6 v7 v2_0 v2_1 v2_2 v4_0 v4_1 v5_0 v5_1 (fun v5_2 v1 v6 v7 v2_0 v2_1 v2_2 v4_0 v4_1 v5_0 v5_1 => K .nrm (f77s4 v5_2 v1 v6 v7 v2_0 v2_1 v2_2 v4_0 v4_1 v5_0 v5_1)) :=
  viaBlock (by kernel_rfl) (by kernel_rfl) (f77t21 N v5_2 v1 v6 v7 v2_0 v2_1 v2_2 v4_0 v4_1 v5_0 v5_1 (blockK 3 (joinK (some f77l4) K))) (by kernel_rfl)
noncomputable def f77c29 := codeAt (bodyOf Try.f77) [1,1,0,1,0,0,1,0,0,1,0,0,1,1]
theorem f77t29 {ρ : Type} (N : Nat) (v5_2 : List Int) (v1 v6 : Int) (v7 v2_0 v2_1 : Int) (v2_2 : List Int) (v4_0 v4_1 : Int) (v5_0 v5_1 : Int) (K : KT ρ) : f77i N f77c29 .n (f77s4 v5_2 v1 v6 v7 v2_0 v2_1 v2_2 v4_0 v4_1 v5_0 v5_1) (joinK (some f77l4) K) =
  spec_l1Mutate.Z29 N v5_2 v1 v6 v7 v2_0 v2_1 v2_2 v4_0 v4_1 v5_0 v5_1 (fun v5_2 v1 v6 v7 v2_0 v2_1 v2_2 v4_0 v4_1 v5_0 v5_1 => K .nrm (f77s4 v5_2 v1 v6 v7 v2_0 v2_1 v2_2 v4_0 v4_1 v5_0 v5_1)) := by kernel_rfl
noncomputable def f77c19 := codeAt (bodyOf Try.f77) [1,1,0,1,0,0,1,0,0,1,0,0,1]
noncomputable def f77p19 : Plan := .mk (some f77l4) none f77p20 .n
theorem f77t19 {ρ : Type} (N : Nat) (v5_2 : List Int) (v1 v6 : Int) (v7 v2_0 v2_1 : Int) (v2_2 : List Int) (v4_0 v4_1 : Int) (v5_0 v5_1 : Int) (K : KT ρ) : f77i N f77c19 f77p19 (f77s4 v5_2 v1 v6 v7 v2_0 v2_1 v2_2 v4_0 v4_1 v5_0 v5_1) (joinK (some f77l4) K) =
  spec_l1Mutate.Z19 N v5_2 v1 v6 v7 v2_0 v2_1 v2_2 v4_0 v4_1 v5_0 v5_1 (fun v5_2 v1 v6 v7 v2_0 v2_1 v2_2 v4_0 v4_1 v5_0 v5_1 => K .nrm (f77s4 v5_2 v1 v6 v7 v2_0 v2_1 v2_2 v4_0 v4_1 v5_0 v5_1)) :=
  viaSeq (fun k => spec_l1Mutate.Z20 N v5_2 v1 v6 v7 v2_0 v2_1 v2_2 v4_0 v4_1 v5_0 v5_1 k) (by kernel_rfl) (by kernel_rfl) (f77t20 N v5_2 v1 v6 v7 v2_0 v2_1 v2_2 v4_0 v4_1 v5_0 v5_1 (seqK (fun σ => f77i N f77c29 .n σ (joinK (some f77l4) K)) (joinK (some f77l4) K))) (funext fun v5_2 => funext fun v1 => funext fun v6 => funext fun v7 => funext fun v2_0 => funext fun v2_1 => funext fun v2_2 => funext fun v4_0 => funext fun v4_1 => funext fun v5_0 => funext fun v5_1 => f77t29 N v5_2 v1 v6 v7 v2_0 v2_1 v2_2 v4_0 v4_1 v5_0 v5_1 K) (by kernel_rfl) (by kernel_rfl)
noncomputable def f77c17 := codeAt (bodyOf Try.f77) [1,1,0,1,0,0,1,0,0,1,0,0]
noncomputable def f77p17 : Plan := .mk (some f77l4) none .n f77p19
theorem f77t17 {ρ : Type} (N : Nat) (v5_2 : List Int) (v1 v6 : Int) (v7 v2_0 v2_1 : Int) (v2_2 : List Int) (v4_0 v4_1 : Int) (v5_0 v5_1 : Int) (K : KT ρ) : f77i N f77c17 f77p17 (f77s4 v5_2 v1 v6 v7 v2_0 v2_1 v2_2 v4_0 v4_1 v5_0 v5_1) (joinK (some f77l4) K) =
  spec_l1Mutate.Z17 N v5_2 v1 v6 v7 v2_0 v2_1 v2_2 v4_0 v4_1 v5_0 v5_1 (fun v5_2 v1 v6 v7 v2_0 v2_1 v2_2 v4_0 v4_1 v5_0 v5_1 => K .nrm (f77s4 v5_2 v1 v6 v7 v2_0 v2_1 v2_2 v4_0 v4_1 v5_0 v5_1)) (fun v5_2 v1 v6 v2_0 v2_1 v2_2 v4_0 v4_1 v5_0 v5_1 => K (.exit 2) (f77s3 v5_2 v1 v6 v2_0 v2_1 v2_2 v4_0 v4_1 v5_0 v5_1)) :=
  viaSeq (fun k => spec_l1Mutate.Z18 N v5_2 v1 v6 v7 v2_0 v2_1 v2_2 v4_0 v4_1 v5_0 v5_1 k (fun v5_2 v1 v6 v2_0 v2_1 v2_2 v4_0 v4_1 v5_0 v5_1 => K (.exit 2) (f77s3 v5_2 v1 v6 v2_0 v2_1 v2_2 v4_0 v4_1 v5_0 v5_1))) (by kernel_rfl) (by kernel_rfl) (f77t18 N v5_2 v1 v6 v7 v2_0 v2_1 v2_2 v4_0 v4_1 v5_0 v5_1 (seqK (fun σ => f77i N f77c19 f77p19 σ (joinK (some f77l4) K)) (joinK (some f77l4) K))) (funext fun v5_2 => funext fun v1 => funext fun v6 => funext fun v7 => funext fun v2_0 => funext fun v2_1 => funext fun v2_2 => funext fun v4_0 => funext fun v4_1 => funext fun v5_0 => funext fun v5_1 => f77t19 N v5_2 v1 v6 v7 v2_0 v2_1 v2_2 v4_0 v4_1 v5_0 v5_1 K) (by kernel_rfl) (by kernel_rfl)
noncomputable def f77c16 := codeAt (bodyOf Try.f77) [1,1,0,1,0,0,1,0,0,1,0]
noncomputable def f77p16 : Plan := .mk none (some f77l4) f77p17 .n
noncomputable abbrev f77w16 {ρ : Type} (N M : Nat) (σ : St) (K : KT ρ) : Option ρ := loopC (fun σ K => f77i N f77c17 f77p17 σ K) f77l4 M σ K
theorem f77t16L {ρ : Type} (N : Nat) (K : KT ρ) : ∀ (M : Nat) (v5_2 : List Int) (v1 v6 : Int) (v7 v2_0 v2_1 : Int) (v2_2 : List Int) (v4_0 v4_1 : Int) (v5_0 v5_1 : Int), f77w16 N M (f77s4 v5_2 v1 v6 v7 v2_0 v2_1 v2_2 v4_0 v4_1 v5_0 v5_1) K =
  spec_l1Mutate.Z16L N (fun v5_2 v1 v6 v2_0 v2_1 v2_2 v4_0 v4_1 v5_0 v5_1 => K (.exit 2) (f77s3 v5_2 v1 v6 v2_0 v2_1 v2_2 v4_0 v4_1 v5_0 v5_1)) M v5_2 v1 v6 v7 v2_0 v2_1 v2_2 v4_0 v4_1 v5_0 v5_1
  | 0, _, _, _, _, _, _, _, _, _, _, _ => rfl
  | M + 1, v5_2, v1, v6, v7, v2_0, v2_1, v2_2, v4_0, v4_1, v5_0, v5_1 => viaRound (fun k => spec_l1Mutate.Z17 N v5_2 v1 v6 v7 v2_0 v2_1 v2_2 v4_0 v4_1 v5_0 v5_1 k (fun v5_2 v1 v6 v2_0 v2_1 v2_2 v4_0 v4_1 v5_0 v5_1 => K (.exit 2) (f77s3 v5_2 v1 v6 v2_0 v2_1 v2_2 v4_0 v4_1 v5_0 v5_1))) (f77t17 N v5_2 v1 v6 v7 v2_0 v2_1 v2_2 v4_0 v4_1 v5_0 v5_1 (seqK (fun σ => f77w16 N M σ K) K)) (funext fun v5_2 => funext fun v1 => funext fun v6 => funext fun v7 => funext fun v2_0 => funext fun v2_1 => funext fun v2_2 => funext fun v4_0 => funext fun v4_1 => funext fun v5_0 => funext fun v5_1 => f77t16L N K M v5_2 v1 v6 v7 v2_0 v2_1 v2_2 v4_0 v4_1 v5_0 v5_1) (by kernel_rfl) (by kernel_rfl)
theorem f77t16 {ρ : Type} (N : Nat) (v5_2 : List Int) (v1 v6 : Int) (v7 v2_0 v2_1 : Int) (v2_2 : List Int) (v4_0 v4_1 : Int) (v5_0 v5_1 : Int) (K : KT ρ) : f77i N f77c16 f77p16 (f77s4 v5_2 v1 v6 v7 v2_0 v2_1 v2_2 v4_0 v4_1 v5_0 v5_1) (joinK (some f77l3) K) =
  spec_l1Mutate.Z16 N v5_2 v1 v6 v7 v2_0 v2_1 v2_2 v4_0 v4_1 v5_0 v5_1 (fun v5_2 v1 v6 v2_0 v2_1 v2_2 v4_0 v4_1 v5_0 v5_1 => K (.exit 2) (f77s3 v5_2 v1 v6 v2_0 v2_1 v2_2 v4_0 v4_1 v5_0 v5_1)) :=
  viaLoop (by kernel_rfl) (by kernel_rfl) (σ' := f77s4 v5_2 v1 v6 v7 v2_0 v2_1 v2_2 v4_0 v4_1 v5_0 v5_1) (by kernel_rfl) (f77t16L N (joinK (some f77l3) K) N v5_2 v1 v6 v7 v2_0 v2_1 v2_2 v4_0 v4_1 v5_0 v5_1) (by kernel_rfl)
noncomputable def f77c15 := codeAt (bodyOf Try.f77) [1,1,0,1,0,0,1,0,0,1]
noncomputable def f77p15 : Plan := .mk (some f77l3) none f77p16 .n
theorem f77t15 {ρ : Type} (N : Nat) (v5_2 : List Int) (v1 v6 : Int) (v7 v2_0 v2_1 : Int) (v2_2 : List Int) (v4_0 v4_1 : Int) (v5_0 v5_1 : Int) (K : KT ρ) : f77i N f77c15 f77p15 (f77s4 v5_2 v1 v6 v7 v2_0 v2_1 v2_2 v4_0 v4_1 v5_0 v5_1) (joinK (some f77l3) K) =
  spec_l1Mutate.Z15 N v5_2 v1 v6 v7 v2_0 v2_1 v2_2 v4_0 v4_1 v5_0 v5_1 (fun v5_2 v1 v6 v2_0 v2_1 v2_2 v4_0 v4_1 v5_0 v5_1 => K .nrm (f77s3 v5_2 v1 v6 v2_0 v2_1 v2_2 v4_0 v4_1 v5_0 v5_1)) :=
  viaBlock (by kernel_rfl) (by kernel_rfl) (f77t16 N v5_2 v1 v6 v7 v2_0 v2_1 v2_2 v4_0 v4_1 v5_0 v5_1 (blockK 2 (joinK (some f77l3) K))) (by kernel_rfl)
noncomputable def f77c13 := codeAt (bodyOf Try.f77) [1,1,0,1,0,0,1,0,0]
noncomputable def f77p13 : Plan := .mk (some f77l4) none .n f77p15
theorem f77t13 {ρ : Type} (N : Nat) (v5_2 : List Int) (v1 v6 : Int) (v2_0 v2_1 : Int) (v2_2 : List Int) (v4_0 v4_1 : Int) (v5_0 v5_1 : Int) (K : KT ρ) : f77i N f77c13 f77p13 (f77s3 v5_2 v1 v6 v2_0 v2_1 v2_2 v4_0 v4_1 v5_0 v5_1) (joinK (some f77l3) K) =
  spec_l1Mutate.Z13 N v5_2 v1 v6 v2_0 v2_1 v2_2 v4_0 v4_1 v5_0 v5_1 (fun v5_2 v1 v6 v2_0 v2_1 v2_2 v4_0 v4_1 v5_0 v5_1 => K .nrm (f77s3 v5_2 v1 v6 v2_0 v2_1 v2_2 v4_0 v4_1 v5_0 v5_1)) :=
  viaSeq (fun k => spec_l1Mutate.Z14 N v5_2 v1 v6 v2_0 v2_1 v2_2 v4_0 v4_1 v5_0 v5_1 k) (by kernel_rfl) (by kernel_rfl) (f77t14 N v5_2 v1 v6 v2_0 v2_1 v2_2 v4_0 v4_1 v5_0 v5_1 (seqK (fun σ => f77i N f77c15 f77p15 σ (joinK (some f77l3) K)) (joinK (some f77l3) K))) (funext fun v5_2 => funext fun v1 => funext fun v6 => funext fun v7 => funext fun v2_0 => funext fun v2_1 => funext fun v2_2 => funext fun v4_0 => funext fun v4_1 => funext fun v5_0 => funext fun v5_1 => f77t15 N v5_2 v1 v6 v7 v2_0 v2_1 v2_2 v4_0 v4_1 v5_0 v5_1 K) (by kernel_rfl) (by kernel_rfl)
noncomputable def f77c12 := codeAt (bodyOf Try.f77) [1,1,0,1,0,0,1,0]
noncomputable def f77p12 : Plan := .mk (some f77l3) none f77p13 .n
theorem f77t12 {ρ : Type} (N : Nat) (v5_2 : List Int) (v1 v6 : Int) (v2_0 v2_1 : Int) (v2_2 : List Int) (v4_0 v4_1 : Int) (v5_0 v5_1 : Int) (K : KT ρ) : f77i N f77c12 f77p12 (f77s3 v5_2 v1 v6 v2_0 v2_1 v2_2 v4_0 v4_1 v5_0 v5_1) (joinK (some f77l3) K) =
  spec_l1Mutate.Z12 N v5_2 v1 v6 v2_0 v2_1 v2_2 v4_0 v4_1 v5_0 v5_1 (fun v5_2 v1 v6 v2_0 v2_1 v2_2 v4_0 v4_1 v5_0 v5_1 => K .nrm (f77s3 v5_2 v1 v6 v2_0 v2_1 v2_2 v4_0 v4_1 v5_0 v5_1)) :=
  viaBlock (by kernel_rfl) (by kernel_rfl) (f77t13 N v5_2 v1 v6 v2_0 v2_1 v2_2 v4_0 v4_1 v5_0 v5_1 (blockK 1 (joinK (some f77l3) K))) (by kernel_rfl)
noncomputable def f77c30 := codeAt (bodyOf Try.f77) [1,1,0,1,0,0,1,1]
theorem f77t30 {ρ : Type} (N : Nat) (v5_2 : List Int) (v1 v6 : Int) (v2_0 v2_1 : Int) (v2_2 : List Int) (v4_0 v4_1 : Int) (v5_0 v5_1 : Int) (K : KT ρ) : f77i N f77c30 .n (f77s3 v5_2 v1 v6 v2_0 v2_1 v2_2 v4_0 v4_1 v5_0 v5_1) (joinK (some f77l3) K) =
  spec_l1Mutate.Z30 N v5_2 v1 v6 v2_0 v2_1 v2_2 v4_0 v4_1 v5_0 v5_1 (fun v5_2 v1 v6 v2_0 v2_1 v2_2 v4_0 v4_1 v5_0 v5_1 => K .nrm (f77s3 v5_2 v1 v6 v2_0 v2_1 v2_2 v4_0 v4_1 v5_0 v5_1)) := by kernel_rfl
noncomputable def f77c11 := codeAt (bodyOf Try.f77) [1,1,0,1,0,0,1]
noncomputable def f77p11 : Plan := .mk (some f77l3) none f77p12 .n
theorem f77t11 {ρ : Type} (N : Nat) (v5_2 : List Int) (v1 v6 : Int) (v2_0 v2_1 : Int) (v2_2 : List Int) (v4_0 v4_1 : Int) (v5_0 v5_1 : Int) (K : KT ρ) : f77i N f77c11 f77p11 (f77s3 v5_2 v1 v6 v2_0 v2_1 v2_2 v4_0 v4_1 v5_0 v5_1) (joinK (some f77l3) K) =
  spec_l1Mutate.Z11 N v5_2 v1 v6 v2_0 v2_1 v2_2 v4_0 v4_1 v5_0 v5_1 (fun v5_2 v1 v6 v2_0 v2_1 v2_2 v4_0 v4_1 v5_0 v5_1 => K .nrm (f77s3 v5_2 v1 v6 v2_0 v2_1 v2_2 v4_0 v4_1 v5_0 v5_1)) :=
  viaSeq (fun k => spec_l1Mutate.Z12 N v5_2 v1 v6 v2_0 v2_1 v2_2 v4_0 v4_1 v5_0 v5_1 k) (by kernel_rfl) (by kernel_rfl) (f77t12 N v5_2 v1 v6 v2_0 v2_1 v2_2 v4_0 v4_1 v5_0 v5_1 (seqK (fun σ => f77i N f77c30 .n σ (joinK (some f77l3) K)) (joinK (some f77l3) K))) (funext fun v5_2 => funext fun v1 => funext fun v6 => funext fun v2_0 => funext fun v2_1 => funext fun v2_2 => funext fun v4_0 => funext fun v4_1 => funext fun v5_0 => funext fun v5_1 => f77t30 N v5_2 v1 v6 v2_0 v2_1 v2_2 v4_0 v4_1 v5_0 v5_1 K) (by kernel_rfl) (by kernel_rfl)
noncomputable def f77c9 := codeAt (bodyOf Try.f77) [1,1,0,1,0,0]
noncomputable def f77p9 : Plan := .mk (some f77l3) none .n f77p11
theorem f77t9 {ρ : Type} (N : Nat) (v5_2 : List Int) (v1 v6 : Int) (v2_0 v2_1 : Int) (v2_2 : List Int) (v4_0 v4_1 : Int) (v5_0 v5_1 : Int) (K : KT ρ) : f77i N f77c9 f77p9 (f77s3 v5_2 v1 v6 v2_0 v2_1 v2_2 v4_0 v4_1 v5_0 v5_1) (joinK (some f77l3) K) =
  spec_l1Mutate.Z9 N v5_2 v1 v6 v2_0 v2_1 v2_2 v4_0 v4_1 v5_0 v5_1 (fun v5_2 v1 v6 v2_0 v2_1 v2_2 v4_0 v4_1 v5_0 v5_1 => K .nrm (f77s3 v5_2 v1 v6 v2_0 v2_1 v2_2 v4_0 v4_1 v5_0 v5_1)) (fun v5_2 v4_0 v4_1 v5_0 v5_1 => K (.exit 0) (f77s8 v5_2 v4_0 v4_1 v5_0 v5_1)) :=
  viaSeq (fun k => spec_l1Mutate.Z10 N v5_2 v1 v6 v2_0 v2_1 v2_2 v4_0 v4_1 v5_0 v5_1 k (fun v5_2 v4_0 v4_1 v5_0 v5_1 => K (.exit 0) (f77s8 v5_2 v4_0 v4_1 v5_0 v5_1))) (by kernel_rfl) (by kernel_rfl) (f77t10 N v5_2 v1 v6 v2_0 v2_1 v2_2 v4_0 v4_1 v5_0 v5_1 (seqK (fun σ => f77i N f77c11 f77p11 σ (joinK (some f77l3) K)) (joinK (some f77l3) K))) (funext fun v5_2 => funext fun v1 => funext fun v6 => funext fun v2_0 => funext fun v2_1 => funext fun v2_2 => funext fun v4_0 => funext fun v4_1 => funext fun v5_0 => funext fun v5_1 => f77t11 N v5_2 v1 v6 v2_0 v2_1 v2_2 v4_0 v4_1 v5_0 v5_1 K) (by kernel_rfl) (by kernel_rfl)
noncomputable def f77c8 := codeAt (bodyOf Try.f77) [1,1,0,1,0]
noncomputable def f77p8 : Plan := .mk none (some f77l3) f77p9 .n
noncomputable abbrev f77w8 {ρ : Type} (N M : Nat) (σ : St) (K : KT ρ) : Option ρ := loopC (fun σ K => f77i N f77c9 f77p9 σ K) f77l3 M σ K
theorem f77t8L {ρ : Type} (N : Nat) (K : KT ρ) : ∀ (M : Nat) (v5_2 : List Int) (v1 v6 : Int) (v2_0 v2_1 : Int) (v2_2 : List Int) (v4_0 v4_1 : Int) (v5_0 v5_1 : Int), f77w8 N M (f77s3 v5_2 v1 v6 v2_0 v2_1 v2_2 v4_0 v4_1 v5_0 v5_1) K =
  spec_l1Mutate.Z8L N (fun v5_2 v4_0 v4_1 v5_0 v5_1 => K (.exit 0) (f77s8 v5_2 v4_0 v4_1 v5_0 v5_1)) M v5_2 v1 v6 v2_0 v2_1 v2_2 v4_0 v4_1 v5_0 v5_1
  | 0, _, _, _, _, _, _, _, _, _, _ => rfl
  | M + 1, v5_2, v1, v6, v2_0, v2_1, v2_2, v4_0, v4_1, v5_0, v5_1 => viaRound (fun k => spec_l1Mutate.Z9 N v5_2 v1 v6 v2_0 v2_1 v2_2 v4_0 v4_1 v5_0 v5_1 k (fun v5_2 v4_0 v4_1 v5_0 v5_1 => K (.exit 0) (f77s8 v5_2 v4_0 v4_1 v5_0 v5_1))) (f77t9 N v5_2 v1 v6 v2_0 v2_1 v2_2 v4_0 v4_1 v5_0 v5_1 (seqK (fun σ => f77w8 N M σ K) K)) (funext fun v5_2 => funext fun v1 => funext fun v6 => funext fun v2_0 => funext fun v2_1 => funext fun v2_2 => funext fun v4_0 => funext fun v4_1 => funext fun v5_0 => funext fun v5_1 => f77t8L N K M v5_2 v1 v6 v2_0 v2_1 v2_2 v4_0 v4_1 v5_0 v5_1) (by kernel_rfl) (by kernel_rfl)
theorem f77t8 {ρ : Type} (N : Nat) (v5_2 : List Int) (v1 v6 : Int) (v2_0 v2_1 : Int) (v2_2 : List Int) (v4_0 v4_1 : Int) (v5_0 v5_1 : Int) (K : KT ρ) : f77i N f77c8 f77p8 (f77s3 v5_2 v1 v6 v2_0 v2_1 v2_2 v4_0 v4_1 v5_0 v5_1) (joinK (some f77l8) K) =
  spec_l1Mutate.Z8 N v5_2 v1 v6 v2_0 v2_1 v2_2 v4_0 v4_1 v5_0 v5_1 (fun v5_2 v4_0 v4_1 v5_0 v5_1 => K (.exit 0) (f77s8 v5_2 v4_0 v4_1 v5_0 v5_1)) :=
  viaLoop (by kernel_rfl) (by kernel_rfl) (σ' := f77s3 v5_2 v1 v6 v2_0 v2_1 v2_2 v4_0 v4_1 v5_0 v5_1) (by kernel_rfl) (f77t8L N (joinK (some f77l8) K) N v5_2 v1 v6 v2_0 v2_1 v2_2 v4_0 v4_1 v5_0 v5_1) (by kernel_rfl)
noncomputable def f77c7 := codeAt (bodyOf Try.f77) [1,1,0,1]
noncomputable def f77p7 : Plan := .mk (some f77l8) none f77p8 .n
theorem f77t7 {ρ : Type} (N : Nat) (v5_2 : List Int) (v1 v6 : Int) (v2_0 v2_1 : Int) (v2_2 : List Int) (v4_0 v4_1 : Int) (v5_0 v5_1 : Int) (K : KT ρ) : f77i N f77c7 f77p7 (f77s3 v5_2 v1 v6 v2_0 v2_1 v2_2 v4_0 v4_1 v5_0 v5_1) (joinK (some f77l8) K) =
  spec_l1Mutate.Z7 N v5_2 v1 v6 v2_0 v2_1 v2_2 v4_0 v4_1 v5_0 v5_1 (fun v5_2 v4_0 v4_1 v5_0 v5_1 => K .nrm (f77s8 v5_2 v4_0 v4_1 v5_0 v5_1)) :=
  viaBlock (by kernel_rfl) (by kernel_rfl) (f77t8 N v5_2 v1 v6 v2_0 v2_1 v2_2 v4_0 v4_1 v5_0 v5_1 (blockK 0 (joinK (some f77l8) K))) (by kernel_rfl)
noncomputable def f77c5 := codeAt (bodyOf Try.f77) [1,1,0]
noncomputable def f77p5 : Plan := .mk (some f77l3) none .n f77p7
theorem f77t5 {ρ : Type} (N : Nat) (v5_2 : List Int) (v1 v2_0 v2_1 : Int) (v2_2 : List Int) (v4_0 v4_1 : Int) (v5_0 v5_1 : Int) (K : KT ρ) : f77i N f77c5 f77p5 (f77s2 v5_2 v1 v2_0 v2_1 v2_2 v4_0 v4_1 v5_0 v5_1) (joinK (some f77l8) K) =
  spec_l1Mutate.Z5 N v5_2 v1 v2_0 v2_1 v2_2 v4_0 v4_1 v5_0 v5_1 (fun v5_2 v4_0 v4_1 v5_0 v5_1 => K .nrm (f77s8 v5_2 v4_0 v4_1 v5_0 v5_1)) :=
  viaSeq (fun k => spec_l1Mutate.Z6 N v5_2 v1 v2_0 v2_1 v2_2 v4_0 v4_1 v5_0 v5_1 k) (by kernel_rfl) (by kernel_rfl) (f77t6 N v5_2 v1 v2_0 v2_1 v2_2 v4_0 v4_1 v5_0 v5_1 (seqK (fun σ => f77i N f77c7 f77p7 σ (joinK (some f77l8) K)) (joinK (some f77l8) K))) (funext fun v5_2 => funext fun v1 => funext fun v6 => funext fun v2_0 => funext fun v2_1 => funext fun v2_2 => funext fun v4_0 => funext fun v4_1 => funext fun v5_0 => funext fun v5_1 => f77t7 N v5_2 v1 v6 v2_0 v2_1 v2_2 v4_0 v4_1 v5_0 v5_1 K) (by kernel_rfl) (by kernel_rfl)
noncomputable def f77c31 := codeAt (bodyOf Try.f77) [1,1,1]
theorem f77t31 {ρ : Type} (N : Nat) (v5_2 : List Int) (v4_0 v4_1 : Int) (v5_0 v5_1 : Int) (K : KT ρ) : f77i N f77c31 .n (f77s8 v5_2 v4_0 v4_1 v5_0 v5_1) (joinK (some f77lE) K) =
  spec_l1Mutate.Z31 N v5_2 v4_0 v4_1 v5_0 v5_1 (fun v4_2 v4_0 v4_1 => K .ret (f77s9 v4_2 v4_0 v4_1)) := by kernel_rfl
noncomputable def f77c4 := codeAt (bodyOf Try.f77) [1,1]
noncomputable def f77p4 : Plan := .mk (some f77l8) none f77p5 .n
theorem f77t4 {ρ : Type} (N : Nat) (v5_2 : List Int) (v1 v2_0 v2_1 : Int) (v2_2 : List Int) (v4_0 v4_1 : Int) (v5_0 v5_1 : Int) (K : KT ρ) : f77i N f77c4 f77p4 (f77s2 v5_2 v1 v2_0 v2_1 v2_2 v4_0 v4_1 v5_0 v5_1) (joinK (some f77lE) K) =
  spec_l1Mutate.Z4 N v5_2 v1 v2_0 v2_1 v2_2 v4_0 v4_1 v5_0 v5_1 (fun v4_2 v4_0 v4_1 => K .ret (f77s9 v4_2 v4_0 v4_1)) :=
  viaSeq (fun k => spec_l1Mutate.Z5 N v5_2 v1 v2_0 v2_1 v2_2 v4_0 v4_1 v5_0 v5_1 k) (by kernel_rfl) (by kernel_rfl) (f77t5 N v5_2 v1 v2_0 v2_1 v2_2 v4_0 v4_1 v5_0 v5_1 (seqK (fun σ => f77i N f77c31 .n σ (joinK (some f77lE) K)) (joinK (some f77lE) K))) (funext fun v5_2 => funext fun v4_0 => funext fun v4_1 => funext fun v5_0 => funext fun v5_1 => f77t31 N v5_2 v4_0 v4_1 v5_0 v5_1 K) (by kernel_rfl) (by kernel_rfl)
noncomputable def f77c2 := codeAt (bodyOf Try.f77) [1]
noncomputable def f77p2 : Plan := .mk (some f77l2) none .n f77p4
theorem f77t2 {ρ : Type} (N : Nat) (v1 v2_0 v2_1 : Int) (v2_2 : List Int) (v4_0 v4_1 : Int) (K : KT ρ) : f77i N f77c2 f77p2 (f77s1 v1 v2_0 v2_1 v2_2 v4_0 v4_1) (joinK (some f77lE) K) =
  spec_l1Mutate.Z2 N v1 v2_0 v2_1 v2_2 v4_0 v4_1 (fun v4_2 v4_0 v4_1 => K .ret (f77s9 v4_2 v4_0 v4_1)) :=
  viaSeq (fun k => spec_l1Mutate.Z3 N v1 v2_0 v2_1 v2_2 v4_0 v4_1 k) (by kernel_rfl) (by kernel_rfl) (f77t3 N v1 v2_0 v2_1 v2_2 v4_0 v4_1 (seqK (fun σ => f77i N f77c4 f77p4 σ (joinK (some f77lE) K)) (joinK (some f77lE) K))) (funext fun v5_2 => funext fun v1 => funext fun v2_0 => funext fun v2_1 => funext fun v2_2 => funext fun v4_0 => funext fun v4_1 => funext fun v5_0 => funext fun v5_1 => f77t4 N v5_2 v1 v2_0 v2_1 v2_2 v4_0 v4_1 v5_0 v5_1 K) (by kernel_rfl) (by kernel_rfl)
noncomputable def f77c0 := codeAt (bodyOf Try.f77) []
noncomputable def f77p0 : Plan := .mk (some f77l1) none .n f77p2
theorem f77t0 {ρ : Type} (N : Nat) (v0 : Int × Int × List Int) (v1 : Int) (K : KT ρ) : f77i N f77c0 f77p0 (f77s0 v0 v1) (joinK (some f77lE) K) =
  spec_l1Mutate.Z0 N v0 v1 (fun v4_2 v4_0 v4_1 => K .ret (f77s9 v4_2 v4_0 v4_1)) :=
  viaSeq (fun k => spec_l1Mutate.Z1 N v0 v1 k) (by kernel_rfl) (by kernel_rfl) (f77t1 N v0 v1 (seqK (fun σ => f77i N f77c2 f77p2 σ (joinK (some f77lE) K)) (joinK (some f77lE) K))) (funext fun v1 => funext fun v2_0 => funext fun v2_1 => funext fun v2_2 => funext fun v4_0 => funext fun v4_1 => f77t2 N v1 v2_0 v2_1 v2_2 v4_0 v4_1 K) (by kernel_rfl) (by kernel_rfl)
theorem f77m (N : Nat) (v0 : Int × Int × List Int) (v1 : Int) : f77i N f77c0 f77p0 (f77s0 v0 v1) (joinK (some f77lE) (finK tab f77sig Try.f77.results.toList)) = spec_l1Mutate.Z0 N v0 v1 (fun v4_2 v4_0 v4_1 => some ((), ((v4_0, (v4_1, v4_2)), ()))) :=
  (f77t0 N v0 v1 (finK tab f77sig Try.f77.results.toList)).trans (by kernel_rfl)
theorem f77ok (h : spec_l1Mutate.Spec) : EntryOk Try.prog 77 e77 :=
  entry_of_code (sig := f77sig) (c := f77c0) (pl := f77p0) (je := (some f77lE)) (B := f77B) Try.func77 (by kernel_rfl) (by kernel_rfl) (by kernel_rfl) tabOk f77GOk (by kernel_rfl) (by kernel_rfl) (by kernel_rfl) (by kernel_rfl) fun X hb hp => by
    obtain ⟨v0, v1, _⟩ := X
    obtain ⟨N, h⟩ := h v0 v1 hb.1 hp
    exact ⟨N, (f77m N v0 v1).trans (h N (Nat.le_refl N))⟩
theorem e77ok : EntryOk Try.prog 77 e77 := f77ok spec_l1Mutate.ok
end Go.Fw
set_option linter.unusedVariables false
set_option linter.unusedSimpArgs false
set_option maxRecDepth 100000
namespace Go.Fw
open Go.Proofs
/-! ### loop.example/g03115/spec.MutateMatrix -/
noncomputable def f39sig : Sig := ⟨[⟨.pair (.int .i64) (.pair (.int .i64) (.sl 3 (.int .i64))), true, false⟩, ⟨.int .i64, false, false⟩], [⟨.pair (.int .i64) (.pair (.int .i64) (.sl 3 (.int .i64))), true, false⟩, ⟨.bool, false, false⟩]⟩
noncomputable def e39 : Entry := ⟨f39sig, none, fun X => ((), ((spec_MutateMatrix.g X.1 X.2.1).1, ((spec_MutateMatrix.g X.1 X.2.1).2, ())))⟩
noncomputable def f39G : Nat → Option Entry := addG (addG (addG (addG (fun _ => none) 72 e72) 76 e76) 77 e77) 78 e78
theorem f39GOk : GOk Try.prog f39G := ((((GOk.nil).add e72ok (by kernel_rfl)).add e76ok (by kernel_rfl)).add e77ok (by kernel_rfl)).add e78ok (by kernel_rfl)
noncomputable def f39lE : Clean := ⟨[], [], [], [], []⟩
noncomputable def f39s0 (v0 : Int × Int × List Int) (v1 : Int) : St := initSt f39sig.ps (v0, (v1, ()))
noncomputable def f39s1 (v4_2 : List Int) (v5 : Bool) (v4_0 v4_1 : Int) : St := stOf [(4, .c (.box 4 0)), (5, .c (.bool v5))] [(4, (26, [.int .i64 v4_0, .int .i64 v4_1, .own 20000258]))] [(20000258, (⟨3, .int .i64, v4_2, true, false⟩ : Row))]
noncomputable def f39l1 : Clean := ⟨[4, 5], [4], [⟨⟨true, 4, 2⟩, 30000000, 3, .int .i64, true⟩], [], [(⟨true, 4, 2⟩, 20000258)]⟩
noncomputable def f39B : Nat → Option Clean := lookL [(1000000, f39l1)]
noncomputable abbrev f39i {ρ : Type} (N : Nat) (c : Code) (p : Plan) (σ : St) (K : KT ρ) : Option ρ := iCode f39G tab f39B N c p σ K
noncomputable def f39c0 := codeAt (bodyOf Try.f39) []
theorem f39t0 {ρ : Type} (N : Nat) (v0 : Int × Int × List Int) (v1 : Int) (K : KT ρ) : f39i N f39c0 .n (f39s0 v0 v1) (joinK (some f39lE) K) =
  spec_MutateMatrix.Z0 N v0 v1 (fun v4_2 v5 v4_0 v4_1 => K .ret (f39s1 v4_2 v5 v4_0 v4_1)) := by kernel_rfl
theorem f39m (N : Nat) (v0 : Int × Int × List Int) (v1 : Int) : f39i N f39c0 .n (f39s0 v0 v1) (joinK (some f39lE) (finK tab f39sig Try.f39.results.toList)) = spec_MutateMatrix.Z0 N v0 v1 (fun v4_2 v5 v4_0 v4_1 => some ((), ((v4_0, (v4_1, v4_2)), (v5, ())))) :=
  (f39t0 N v0 v1 (finK tab f39sig Try.f39.results.toList)).trans (by kernel_rfl)
theorem f39ok (h : spec_MutateMatrix.Spec) : EntryOk Try.prog 39 e39 :=
  entry_of_code (sig := f39sig) (c := f39c0) (pl := .n) (je := (some f39lE)) (B := f39B) Try.func39 (by kernel_rfl) (by kernel_rfl) (by kernel_rfl) tabOk f39GOk (by kernel_rfl) (by kernel_rfl) (by kernel_rfl) (by kernel_rfl) fun X hb hp => by
    obtain ⟨v0, v1, _⟩ := X
    obtain ⟨N, h⟩ := h v0 v1 hb.1
    exact ⟨N, (f39m N v0 v1).trans (h N (Nat.le_refl N))⟩
theorem e39ok : EntryOk Try.prog 39 e39 := f39ok spec_MutateMatrix.ok
end Go.Fw
set_option linter.unusedVariables false
set_option linter.unusedSimpArgs false
set_option maxRecDepth 100000
namespace Go.Fw
open Go.Proofs
/-! ### loop.example/g03115/spec.l4Along -/
noncomputable def f85sig : Sig := ⟨[⟨.pair (.int .i64) (.pair (.int .i64) (.sl 3 (.int .i64))), true, false⟩, ⟨.sl 3 (.int .i64), false, false⟩], [⟨.sl 26 (.pair (.int .i64) (.pair (.int .i64) (.sl 3 (.int .i64)))), false, false⟩, ⟨.bool, false, false⟩]⟩
noncomputable def e85 : Entry := ⟨f85sig, none, fun X => ((), ((spec_l4Along.g X.1 X.2.1).1, ((spec_l4Along.g X.1 X.2.1).2, ())))⟩
noncomputable def f85G : Nat → Option Entry := addG (addG (addG (fun _ => none) 39 e39) 68 e68) 70 e70
theorem f85GOk : GOk Try.prog f85G := (((GOk.nil).add e39ok (by kernel_rfl)).add e68ok (by kernel_rfl)).add e70ok (by kernel_rfl)
noncomputable def f85lE : Clean := ⟨[], [], [], [], []⟩
noncomputable def f85s0 (v0 : Int × Int × List Int) (v1 : List Int) : St := initSt f85sig.ps (v0, (v1, ()))
noncomputable def f85s1 (v1 : List Int) (v2_0 v2_1 : Int) (v2_2 : List Int) : St := stOf [(1, .c (.sn 3 (.int .i64) v1 none)), (2, .c (.box 2 0))] [(2, (26, [.int .i64 v2_0, .int .i64 v2_1, .sn 3 (.int .i64) v2_2 none]))] []
noncomputable def f85l1 : Clean := ⟨[1, 2], [2], [], [], []⟩
noncomputable def f85s2 (v6 : List (Int × Int × List Int)) (v1 : List Int) : St := stOf [(1, .c (.sn 3 (.int .i64) v1 none)), (6, .c (.own 1000384))] [] [(1000384, (⟨26, .pair (.int .i64) (.pair (.int .i64) (.sl 3 (.int .i64))), v6, true, false⟩ : Row))]
noncomputable def f85l2 : Clean := ⟨[1, 6], [], [], [], [(⟨false, 6, 0⟩, 1000384)]⟩
noncomputable def f85s3 (v6 : List (Int × Int × List Int)) (v1 : List Int) (v7 : Int) : St := stOf [(1, .c (.sn 3 (.int .i64) v1 none)), (6, .c (.own 1000384)), (7, .c (.int .i64 v7))] [] [(1000384, (⟨26, .pair (.int .i64) (.pair (.int .i64) (.sl 3 (.int .i64))), v6, true, false⟩ : Row))]
noncomputable def f85l3 : Clean := ⟨[1, 6, 7], [], [], [], [(⟨false, 6, 0⟩, 1000384)]⟩
noncomputable def f85s4 (v6 : List (Int × Int × List Int)) : St := stOf [(6, .c (.own 1000384))] [] [(1000384, (⟨26, .pair (.int .i64) (.pair (.int .i64) (.sl 3 (.int .i64))), v6, true, false⟩ : Row))]
noncomputable def f85l4 : Clean := ⟨[6], [], [], [], [(⟨false, 6, 0⟩, 1000384)]⟩
noncomputable def f85s5 (v4 : List (Int × Int × List Int)) (v5 : Bool) : St := stOf [(4, .c (.own 1000256)), (5, .c (.bool v5))] [] [(1000256, (⟨26, .pair (.int .i64) (.pair (.int .i64) (.sl 3 (.int .i64))), v4, true, false⟩ : Row))]
noncomputable def f85l5 : Clean := ⟨[4, 5], [], [⟨⟨false, 4, 0⟩, 30000000, 26, .pair (.int .i64) (.pair (.int .i64) (.sl 3 (.int .i64))), true⟩], [], [(⟨false, 4, 0⟩, 1000256)]⟩
noncomputable def f85B : Nat → Option Clean := lookL [(0, f85l4), (1000000, f85l5)]
noncomputable abbrev f85i {ρ : Type} (N : Nat) (c : Code) (p : Plan) (σ : St) (K : KT ρ) : Option ρ := iCode f85G tab f85B N c p σ K
noncomputable def f85c1 := codeAt (bodyOf Try.f85) [0]
theorem f85t1 {ρ : Type} (N : Nat) (v0 : Int × Int × List Int) (v1 : List Int) (K : KT ρ) : f85i N f85c1 .n (f85s0 v0 v1) (joinK (some f85l1) K) =
  spec_l4Along.Z1 N v0 v1 (fun v1 v2_0 v2_1 v2_2 => K .nrm (f85s1 v1 v2_0 v2_1 v2_2)) := by kernel_rfl
noncomputable def f85c3 := codeAt (bodyOf Try.f85) [1,0]
theorem f85t3 {ρ : Type} (N : Nat) (v1 : List Int) (v2_0 v2_1 : Int) (v2_2 : List Int) (K : KT ρ) : f85i N f85c3 .n (f85s1 v1 v2_0 v2_1 v2_2) (joinK (some f85l1) K) =
  spec_l4Along.Z3 N v1 v2_0 v2_1 v2_2 (fun v1 v2_0 v2_1 v2_2 => K .nrm (f85s1 v1 v2_0 v2_1 v2_2)) (fun v4 v5 => K .ret (f85s5 v4 v5)) := by kernel_rfl
noncomputable def f85c5 := codeAt (bodyOf Try.f85) [1,1,0]
theorem f85t5 {ρ : Type} (N : Nat) (v1 : List Int) (v2_0 v2_1 : Int) (v2_2 : List Int) (K : KT ρ) : f85i N f85c5 .n (f85s1 v1 v2_0 v2_1 v2_2) (joinK (some f85l2) K) =
  spec_l4Along.Z5 N v1 v2_0 v2_1 v2_2 (fun v6 v1 => K .nrm (f85s2 v6 v1)) := by kernel_rfl
noncomputable def f85c8 := codeAt (bodyOf Try.f85) [1,1,1,0,0]
theorem f85t8 {ρ : Type} (N : Nat) (v6 : List (Int × Int × List Int)) (v1 : List Int) (K : KT ρ) : f85i N f85c8 .n (f85s2 v6 v1) (joinK (some f85l3) K) =
  spec_l4Along.Z8 N v6 v1 (fun v6 v1 v7 => K .nrm (f85s3 v6 v1 v7)) := by kernel_rfl
noncomputable def f85c11 := codeAt (bodyOf Try.f85) [1,1,1,0,1,0,0]
theorem f85t11 {ρ : Type} (N : Nat) (v6 : List (Int × Int × List Int)) (v1 : List Int) (v7 : Int) (K : KT ρ) : f85i N f85c11 .n (f85s3 v6 v1 v7) (joinK (some f85l3) K) =
  spec_l4Along.Z11 N v6 v1 v7 (fun v6 v1 v7 => K .nrm (f85s3 v6 v1 v7)) (fun v6 => K (.exit 0) (f85s4 v6)) (fun v4 v5 => K .ret (f85s5 v4 v5)) := by kernel_rfl
noncomputable def f85c10 := codeAt (bodyOf Try.f85) [1,1,1,0,1,0]
noncomputable def f85p10 : Plan := .mk none (some f85l3) .n .n
noncomputable abbrev f85w10 {ρ : Type} (N M : Nat) (σ : St) (K : KT ρ) : Option ρ := loopC (fun σ K => f85i N f85c11 .n σ K) f85l3 M σ K
theorem f85t10L {ρ : Type} (N : Nat) (K : KT ρ) : ∀ (M : Nat) (v6 : List (Int × Int × List Int)) (v1 : List Int) (v7 : Int), f85w10 N M (f85s3 v6 v1 v7) K =
  spec_l4Along.Z10L N (fun v6 => K (.exit 0) (f85s4 v6)) (fun v4 v5 => K .ret (f85s5 v4 v5)) M v6 v1 v7
  | 0, _, _, _ => rfl
  | M + 1, v6, v1, v7 => viaRound (fun k => spec_l4Along.Z11 N v6 v1 v7 k (fun v6 => K (.exit 0) (f85s4 v6)) (fun v4 v5 => K .ret (f85s5 v4 v5))) (f85t11 N v6 v1 v7 (seqK (fun σ => f85w10 N M σ K) K)) (funext fun v6 => funext fun v1 => funext fun v7 => f85t10L N K M v6 v1 v7) (by kernel_rfl) (by kernel_rfl)
theorem f85t10 {ρ : Type} (N : Nat) (v6 : List (Int × Int × List Int)) (v1 : List Int) (v7 : Int) (K : KT ρ) : f85i N f85c10 f85p10 (f85s3 v6 v1 v7) (joinK (some f85l4) K) =
  spec_l4Along.Z10 N v6 v1 v7 (fun v6 => K (.exit 0) (f85s4 v6)) (fun v4 v5 => K .ret (f85s5 v4 v5)) :=
  viaLoop (by kernel_rfl) (by kernel_rfl) (σ' := f85s3 v6 v1 v7) (by kernel_rfl) (f85t10L N (joinK (some f85l4) K) N v6 v1 v7) (by kernel_rfl)
noncomputable def f85c9 := codeAt (bodyOf Try.f85) [1,1,1,0,1]
noncomputable def f85p9 : Plan := .mk (some f85l4) none f85p10 .n
theorem f85t9 {ρ : Type} (N : Nat) (v6 : List (Int × Int × List Int)) (v1 : List Int) (v7 : Int) (K : KT ρ) : f85i N f85c9 f85p9 (f85s3 v6 v1 v7) (joinK (some f85l4) K) =
  spec_l4Along.Z9 N v6 v1 v7 (fun v6 => K .nrm (f85s4 v6)) (fun v4 v5 => K .ret (f85s5 v4 v5)) :=
  viaBlock (by kernel_rfl) (by kernel_rfl) (f85t10 N v6 v1 v7 (blockK 0 (joinK (some f85l4) K))) (by kernel_rfl)
noncomputable def f85c7 := codeAt (bodyOf Try.f85) [1,1,1,0]
noncomputable def f85p7 : Plan := .mk (some f85l3) none .n f85p9
theorem f85t7 {ρ : Type} (N : Nat) (v6 : List (Int × Int × List Int)) (v1 : List Int) (K : KT ρ) : f85i N f85c7 f85p7 (f85s2 v6 v1) (joinK (some f85l4) K) =
  spec_l4Along.Z7 N v6 v1 (fun v6 => K .nrm (f85s4 v6)) (fun v4 v5 => K .ret (f85s5 v4 v5)) :=
  viaSeq (fun k => spec_l4Along.Z8 N v6 v1 k) (by kernel_rfl) (by kernel_rfl) (f85t8 N v6 v1 (seqK (fun σ => f85i N f85c9 f85p9 σ (joinK (some f85l4) K)) (joinK (some f85l4) K))) (funext fun v6 => funext fun v1 => funext fun v7 => f85t9 N v6 v1 v7 K) (by kernel_rfl) (by kernel_rfl)
noncomputable def f85c12 := codeAt (bodyOf Try.f85) [1,1,1,1]
theorem f85t12 {ρ : Type} (N : Nat) (v6 : List (Int × Int × List Int)) (K : KT ρ) : f85i N f85c12 .n (f85s4 v6) (joinK (some f85lE) K) =
  spec_l4Along.Z12 N v6 (fun v4 v5 => K .ret (f85s5 v4 v5)) := by kernel_rfl
noncomputable def f85c6 := codeAt (bodyOf Try.f85) [1,1,1]
noncomputable def f85p6 : Plan := .mk (some f85l4) none f85p7 .n
theorem f85t6 {ρ : Type} (N : Nat) (v6 : List (Int × Int × List Int)) (v1 : List Int) (K : KT ρ) : f85i N f85c6 f85p6 (f85s2 v6 v1) (joinK (some f85lE) K) =
  spec_l4Along.Z6 N v6 v1 (fun v4 v5 => K .ret (f85s5 v4 v5)) :=
  viaSeq (fun k => spec_l4Along.Z7 N v6 v1 k (fun v4 v5 => K .ret (f85s5 v4 v5))) (by kernel_rfl) (by kernel_rfl) (f85t7 N v6 v1 (seqK (fun σ => f85i N f85c12 .n σ (joinK (some f85lE) K)) (joinK (some f85lE) K))) (funext fun v6 => f85t12 N v6 K) (by kernel_rfl) (by kernel_rfl)
noncomputable def f85c4 := codeAt (bodyOf Try.f85) [1,1]
noncomputable def f85p4 : Plan := .mk (some f85l2) none .n f85p6
theorem f85t4 {ρ : Type} (N : Nat) (v1 : List Int) (v2_0 v2_1 : Int) (v2_2 : List Int) (K : KT ρ) : f85i N f85c4 f85p4 (f85s1 v1 v2_0 v2_1 v2_2) (joinK (some f85lE) K) =
  spec_l4Along.Z4 N v1 v2_0 v2_1 v2_2 (fun v4 v5 => K .ret (f85s5 v4 v5)) :=
  viaSeq (fun k => spec_l4Along.Z5 N v1 v2_0 v2_1 v2_2 k) (by kernel_rfl) (by kernel_rfl) (f85t5 N v1 v2_0 v2_1 v2_2 (seqK (fun σ => f85i N f85c6 f85p6 σ (joinK (some f85lE) K)) (joinK (some f85lE) K))) (funext fun v6 => funext fun v1 => f85t6 N v6 v1 K) (by kernel_rfl) (by kernel_rfl)
noncomputable def f85c2 := codeAt (bodyOf Try.f85) [1]
noncomputable def f85p2 : Plan := .mk (some f85l1) none .n f85p4
theorem f85t2 {ρ : Type} (N : Nat) (v1 : List Int) (v2_0 v2_1 : Int) (v2_2 : List Int) (K : KT ρ) : f85i N f85c2 f85p2 (f85s1 v1 v2_0 v2_1 v2_2) (joinK (some f85lE) K) =
  spec_l4Along.Z2 N v1 v2_0 v2_1 v2_2 (fun v4 v5 => K .ret (f85s5 v4 v5)) :=
  viaSeq (fun k => spec_l4Along.Z3 N v1 v2_0 v2_1 v2_2 k (fun v4 v5 => K .ret (f85s5 v4 v5))) (by kernel_rfl) (by kernel_rfl) (f85t3 N v1 v2_0 v2_1 v2_2 (seqK (fun σ => f85i N f85c4 f85p4 σ (joinK (some f85lE) K)) (joinK (some f85lE) K))) (funext fun v1 => funext fun v2_0 => funext fun v2_1 => funext fun v2_2 => f85t4 N v1 v2_0 v2_1 v2_2 K) (by kernel_rfl) (by kernel_rfl)
noncomputable def f85c0 := codeAt (bodyOf Try.f85) []
noncomputable def f85p0 : Plan := .mk (some f85l1) none .n f85p2
theorem f85t0 {ρ : Type} (N : Nat) (v0 : Int × Int × List Int) (v1 : List Int) (K : KT ρ) : f85i N f85c0 f85p0 (f85s0 v0 v1) (joinK (some f85lE) K) =
  spec_l4Along.Z0 N v0 v1 (fun v4 v5 => K .ret (f85s5 v4 v5)) :=
  viaSeq (fun k => spec_l4Along.Z1 N v0 v1 k) (by kernel_rfl) (by kernel_rfl) (f85t1 N v0 v1 (seqK (fun σ => f85i N f85c2 f85p2 σ (joinK (some f85lE) K)) (joinK (some f85lE) K))) (funext fun v1 => funext fun v2_0 => funext fun v2_1 => funext fun v2_2 => f85t2 N v1 v2_0 v2_1 v2_2 K) (by kernel_rfl) (by kernel_rfl)
theorem f85m (N : Nat) (v0 : Int × Int × List Int) (v1 : List Int) : f85i N f85c0 f85p0 (f85s0 v0 v1) (joinK (some f85lE) (finK tab f85sig Try.f85.results.toList)) = spec_l4Along.Z0 N v0 v1 (fun v4 v5 => some ((), (v4, (v5, ())))) :=
  (f85t0 N v0 v1 (finK tab f85sig Try.f85.results.toList)).trans (by kernel_rfl)
theorem f85ok (h : spec_l4Along.Spec) : EntryOk Try.prog 85 e85 :=
  entry_of_code (sig := f85sig) (c := f85c0) (pl := f85p0) (je := (some f85lE)) (B := f85B) Try.func85 (by kernel_rfl) (by kernel_rfl) (by kernel_rfl) tabOk f85GOk (by kernel_rfl) (by kernel_rfl) (by kernel_rfl) (by kernel_rfl) fun X hb hp => by
    obtain ⟨v0, v1, _⟩ := X
    obtain ⟨N, h⟩ := h v0 v1 hb.1 hb.2.1
    exact ⟨N, (f85m N v0 v1).trans (h N (Nat.le_refl N))⟩
theorem e85ok : EntryOk Try.prog 85 e85 := f85ok spec_l4Along.ok
end Go.Fw
set_option linter.unusedVariables false
set_option linter.unusedSimpArgs false
set_option maxRecDepth 100000
namespace Go.Fw
open Go.Proofs
/-! ### loop.example/g03115/spec.l4Lower -/
noncomputable def f86sig : Sig := ⟨[⟨.pair (.int .i64) (.pair (.int .i64) (.sl 3 (.int .i64))), true, false⟩], [⟨.sl 24 (.sl 3 (.int .i64)), false, false⟩]⟩
noncomputable def e86 : Entry := ⟨f86sig, (some fun X => spec_l4Lower.P X.1), fun X => ((), ((spec_l4Lower.g X.1), ()))⟩
noncomputable def f86G : Nat → Option Entry := addG (fun _ => none) 98 e98
theorem f86GOk : GOk Try.prog f86G := (GOk.nil).add e98ok (by kernel_rfl)
noncomputable def f86lE : Clean := ⟨[], [], [], [], []⟩
noncomputable def f86s0 (v0 : Int × Int × List Int) : St := initSt f86sig.ps (v0, ())
noncomputable def f86s1 (v1_0 v1_1 : Int) (v1_2 : List Int) : St := stOf [(1, .c (.box 1 0))] [(1, (26, [.int .i64 v1_0, .int .i64 v1_1, .sn 3 (.int .i64) v1_2 none]))] []
noncomputable def f86l1 : Clean := ⟨[1], [1], [], [], []⟩
noncomputable def f86s2 (v3 : List (List Int)) (v1_0 v1_1 : Int) (v1_2 : List Int) : St := stOf [(1, .c (.box 1 0)), (3, .c (.own 1000192))] [(1, (26, [.int .i64 v1_0, .int .i64 v1_1, .sn 3 (.int .i64) v1_2 none]))] [(1000192, (⟨24, .sl 3 (.int .i64), v3, true, false⟩ : Row))]
noncomputable def f86l2 : Clean := ⟨[1, 3], [1], [], [], [(⟨false, 3, 0⟩, 1000192)]⟩
noncomputable def f86s3 (v3 : List (List Int)) (v4 v1_0 v1_1 : Int) (v1_2 : List Int) : St := stOf [(1, .c (.box 1 0)), (3, .c (.own 1000192)), (4, .c (.int .i64 v4))] [(1, (26, [.int .i64 v1_0, .int .i64 v1_1, .sn 3 (.int .i64) v1_2 none]))] [(1000192, (⟨24, .sl 3 (.int .i64), v3, true, false⟩ : Row))]
noncomputable def f86l3 : Clean := ⟨[1, 3, 4], [1], [], [], [(⟨false, 3, 0⟩, 1000192)]⟩
noncomputable def f86s4 (v3 : List (List Int)) : St := stOf [(3, .c (.own 1000192))] [] [(1000192, (⟨24, .sl 3 (.int .i64), v3, true, false⟩ : Row))]
noncomputable def f86l4 : Clean := ⟨[3], [], [], [], [(⟨false, 3, 0⟩, 1000192)]⟩
noncomputable def f86s5 (v2 : List (List Int)) : St := stOf [(2, .c (.own 1000128))] [] [(1000128, (⟨24, .sl 3 (.int .i64), v2, true, false⟩ : Row))]
noncomputable def f86l5 : Clean := ⟨[2], [], [], [], [(⟨false, 2, 0⟩, 1000128)]⟩
noncomputable def f86B : Nat → Option Clean := lookL [(0, f86l4), (1000000, f86l5)]
noncomputable abbrev f86i {ρ : Type} (N : Nat) (c : Code) (p : Plan) (σ : St) (K : KT ρ) : Option ρ := iCode f86G tab f86B N c p σ K
noncomputable def f86c1 := codeAt (bodyOf Try.f86) [0]
theorem f86t1 {ρ : Type} (N : Nat) (v0 : Int × Int × List Int) (K : KT ρ) : f86i N f86c1 .n (f86s0 v0) (joinK (some f86l1) K) =
  spec_l4Lower.Z1 N v0 (fun v1_0 v1_1 v1_2 => K .nrm (f86s1 v1_0 v1_1 v1_2)) := by kernel_rfl
noncomputable def f86c3 := codeAt (bodyOf Try.f86) [1,0]
theorem f86t3 {ρ : Type} (N : Nat) (v1_0 v1_1 : Int) (v1_2 : List Int) (K : KT ρ) : f86i N f86c3 .n (f86s1 v1_0 v1_1 v1_2) (joinK (some f86l2) K) =
  spec_l4Lower.Z3 N v1_0 v1_1 v1_2 (fun v3 v1_0 v1_1 v1_2 => K .nrm (f86s2 v3 v1_0 v1_1 v1_2)) := by kernel_rfl
noncomputable def f86c6 := codeAt (bodyOf Try.f86) [1,1,0,0]
theorem f86t6 {ρ : Type} (N : Nat) (v3 : List (List Int)) (v1_0 v1_1 : Int) (v1_2 : List Int) (K : KT ρ) : f86i N f86c6 .n (f86s2 v3 v1_0 v1_1 v1_2) (joinK (some f86l3) K) =
  spec_l4Lower.Z6 N v3 v1_0 v1_1 v1_2 (fun v3 v4 v1_0 v1_1 v1_2 => K .nrm (f86s3 v3 v4 v1_0 v1_1 v1_2)) := by kernel_rfl
noncomputable def f86c9 := codeAt (bodyOf Try.f86) [1,1,0,1,0,0]
theorem f86t9 {ρ : Type} (N : Nat) (v3 : List (List Int)) (v4 v1_0 v1_1 : Int) (v1_2 : List Int) (K : KT ρ) : f86i N f86c9 .n (f86s3 v3 v4 v1_0 v1_1 v1_2) (joinK (some f86l3) K) =
  spec_l4Lower.Z9 N v3 v4 v1_0 v1_1 v1_2 (fun v3 v4 v1_0 v1_1 v1_2 => K .nrm (f86s3 v3 v4 v1_0 v1_1 v1_2)) (fun v3 => K (.exit 0) (f86s4 v3)) := by kernel_rfl
noncomputable def f86c8 := codeAt (bodyOf Try.f86) [1,1,0,1,0]
noncomputable def f86p8 : Plan := .mk none (some f86l3) .n .n
noncomputable abbrev f86w8 {ρ : Type} (N M : Nat) (σ : St) (K : KT ρ) : Option ρ := loopC (fun σ K => f86i N f86c9 .n σ K) f86l3 M σ K
theorem f86t8L {ρ : Type} (N : Nat) (K : KT ρ) : ∀ (M : Nat) (v3 : List (List Int)) (v4 v1_0 v1_1 : Int) (v1_2 : List Int), f86w8 N M (f86s3 v3 v4 v1_0 v1_1 v1_2) K =
  spec_l4Lower.Z8L N (fun v3 => K (.exit 0) (f86s4 v3)) M v3 v4 v1_0 v1_1 v1_2
  | 0, _, _, _, _, _ => rfl
  | M + 1, v3, v4, v1_0, v1_1, v1_2 => viaRound (fun k => spec_l4Lower.Z9 N v3 v4 v1_0 v1_1 v1_2 k (fun v3 => K (.exit 0) (f86s4 v3))) (f86t9 N v3 v4 v1_0 v1_1 v1_2 (seqK (fun σ => f86w8 N M σ K) K)) (funext fun v3 => funext fun v4 => funext fun v1_0 => funext fun v1_1 => funext fun v1_2 => f86t8L N K M v3 v4 v1_0 v1_1 v1_2) (by kernel_rfl) (by kernel_rfl)
theorem f86t8 {ρ : Type} (N : Nat) (v3 : List (List Int)) (v4 v1_0 v1_1 : Int) (v1_2 : List Int) (K : KT ρ) : f86i N f86c8 f86p8 (f86s3 v3 v4 v1_0 v1_1 v1_2) (joinK (some f86l4) K) =
  spec_l4Lower.Z8 N v3 v4 v1_0 v1_1 v1_2 (fun v3 => K (.exit 0) (f86s4 v3)) :=
  viaLoop (by kernel_rfl) (by kernel_rfl) (σ' := f86s3 v3 v4 v1_0 v1_1 v1_2) (by kernel_rfl) (f86t8L N (joinK (some f86l4) K) N v3 v4 v1_0 v1_1 v1_2) (by kernel_rfl)
noncomputable def f86c7 := codeAt (bodyOf Try.f86) [1,1,0,1]
noncomputable def f86p7 : Plan := .mk (some f86l4) none f86p8 .n
theorem f86t7 {ρ : Type} (N : Nat) (v3 : List (List Int)) (v4 v1_0 v1_1 : Int) (v1_2 : List Int) (K : KT ρ) : f86i N f86c7 f86p7 (f86s3 v3 v4 v1_0 v1_1 v1_2) (joinK (some f86l4) K) =
  spec_l4Lower.Z7 N v3 v4 v1_0 v1_1 v1_2 (fun v3 => K .nrm (f86s4 v3)) :=
  viaBlock (by kernel_rfl) (by kernel_rfl) (f86t8 N v3 v4 v1_0 v1_1 v1_2 (blockK 0 (joinK (some f86l4) K))) (by kernel_rfl)
noncomputable def f86c5 := codeAt (bodyOf Try.f86) [1,1,0]
noncomputable def f86p5 : Plan := .mk (some f86l3) none .n f86p7
theorem f86t5 {ρ : Type} (N : Nat) (v3 : List (List Int)) (v1_0 v1_1 : Int) (v1_2 : List Int) (K : KT ρ) : f86i N f86c5 f86p5 (f86s2 v3 v1_0 v1_1 v1_2) (joinK (some f86l4) K) =
  spec_l4Lower.Z5 N v3 v1_0 v1_1 v1_2 (fun v3 => K .nrm (f86s4 v3)) :=
  viaSeq (fun k => spec_l4Lower.Z6 N v3 v1_0 v1_1 v1_2 k) (by kernel_rfl) (by kernel_rfl) (f86t6 N v3 v1_0 v1_1 v1_2 (seqK (fun σ => f86i N f86c7 f86p7 σ (joinK (some f86l4) K)) (joinK (some f86l4) K))) (funext fun v3 => funext fun v4 => funext fun v1_0 => funext fun v1_1 => funext fun v1_2 => f86t7 N v3 v4 v1_0 v1_1 v1_2 K) (by kernel_rfl) (by kernel_rfl)
noncomputable def f86c10 := codeAt (bodyOf Try.f86) [1,1,1]
theorem f86t10 {ρ : Type} (N : Nat) (v3 : List (List Int)) (K : KT ρ) : f86i N f86c10 .n (f86s4 v3) (joinK (some f86lE) K) =
  spec_l4Lower.Z10 N v3 (fun v2 => K .ret (f86s5 v2)) := by kernel_rfl
noncomputable def f86c4 := codeAt (bodyOf Try.f86) [1,1]
noncomputable def f86p4 : Plan := .mk (some f86l4) none f86p5 .n
theorem f86t4 {ρ : Type} (N : Nat) (v3 : List (List Int)) (v1_0 v1_1 : Int) (v1_2 : List Int) (K : KT ρ) : f86i N f86c4 f86p4 (f86s2 v3 v1_0 v1_1 v1_2) (joinK (some f86lE) K) =
  spec_l4Lower.Z4 N v3 v1_0 v1_1 v1_2 (fun v2 => K .ret (f86s5 v2)) :=
  viaSeq (fun k => spec_l4Lower.Z5 N v3 v1_0 v1_1 v1_2 k) (by kernel_rfl) (by kernel_rfl) (f86t5 N v3 v1_0 v1_1 v1_2 (seqK (fun σ => f86i N f86c10 .n σ (joinK (some f86lE) K)) (joinK (some f86lE) K))) (funext fun v3 => f86t10 N v3 K) (by kernel_rfl) (by kernel_rfl)
noncomputable def f86c2 := codeAt (bodyOf Try.f86) [1]
noncomputable def f86p2 : Plan := .mk (some f86l2) none .n f86p4
theorem f86t2 {ρ : Type} (N : Nat) (v1_0 v1_1 : Int) (v1_2 : List Int) (K : KT ρ) : f86i N f86c2 f86p2 (f86s1 v1_0 v1_1 v1_2) (joinK (some f86lE) K) =
  spec_l4Lower.Z2 N v1_0 v1_1 v1_2 (fun v2 => K .ret (f86s5 v2)) :=
  viaSeq (fun k => spec_l4Lower.Z3 N v1_0 v1_1 v1_2 k) (by kernel_rfl) (by kernel_rfl) (f86t3 N v1_0 v1_1 v1_2 (seqK (fun σ => f86i N f86c4 f86p4 σ (joinK (some f86lE) K)) (joinK (some f86lE) K))) (funext fun v3 => funext fun v1_0 => funext fun v1_1 => funext fun v1_2 => f86t4 N v3 v1_0 v1_1 v1_2 K) (by kernel_rfl) (by kernel_rfl)
noncomputable def f86c0 := codeAt (bodyOf Try.f86) []
noncomputable def f86p0 : Plan := .mk (some f86l1) none .n f86p2
theorem f86t0 {ρ : Type} (N : Nat) (v0 : Int × Int × List Int) (K : KT ρ) : f86i N f86c0 f86p0 (f86s0 v0) (joinK (some f86lE) K) =
  spec_l4Lower.Z0 N v0 (fun v2 => K .ret (f86s5 v2)) :=
  viaSeq (fun k => spec_l4Lower.Z1 N v0 k) (by kernel_rfl) (by kernel_rfl) (f86t1 N v0 (seqK (fun σ => f86i N f86c2 f86p2 σ (joinK (some f86lE) K)) (joinK (some f86lE) K))) (funext fun v1_0 => funext fun v1_1 => funext fun v1_2 => f86t2 N v1_0 v1_1 v1_2 K) (by kernel_rfl) (by kernel_rfl)
theorem f86m (N : Nat) (v0 : Int × Int × List Int) : f86i N f86c0 f86p0 (f86s0 v0) (joinK (some f86lE) (finK tab f86sig Try.f86.results.toList)) = spec_l4Lower.Z0 N v0 (fun v2 => some ((), (v2, ()))) :=
  (f86t0 N v0 (finK tab f86sig Try.f86.results.toList)).trans (by kernel_rfl)
theorem f86ok (h : spec_l4Lower.Spec) : EntryOk Try.prog 86 e86 :=
  entry_of_code (sig := f86sig) (c := f86c0) (pl := f86p0) (je := (some f86lE)) (B := f86B) Try.func86 (by kernel_rfl) (by kernel_rfl) (by kernel_rfl) tabOk f86GOk (by kernel_rfl) (by kernel_rfl) (by kernel_rfl) (by kernel_rfl) fun X hb hp => by
    obtain ⟨v0, _⟩ := X
    obtain ⟨N, h⟩ := h v0 hb.1 hp
    exact ⟨N, (f86m N v0).trans (h N (Nat.le_refl N))⟩
theorem e86ok : EntryOk Try.prog 86 e86 := f86ok spec_l4Lower.ok
end Go.Fw
set_option linter.unusedVariables false
set_option linter.unusedSimpArgs false
set_option maxRecDepth 100000
namespace Go.Fw
open Go.Proofs
/-! ### loop.example/g03115/spec.CVectorsOf -/
noncomputable def f48sig : Sig := ⟨[⟨.pair (.int .i64) (.pair (.int .i64) (.sl 3 (.int .i64))), true, false⟩, ⟨.sl 3 (.int .i64), false, false⟩], [⟨.sl 24 (.sl 3 (.int .i64)), false, false⟩, ⟨.bool, false, false⟩]⟩
noncomputable def e48 : Entry := ⟨f48sig, none, fun X => ((), ((spec_CVectorsOf.g X.1 X.2.1).1, ((spec_CVectorsOf.g X.1 X.2.1).2, ())))⟩
noncomputable def f48G : Nat → Option Entry := addG (addG (fun _ => none) 85 e85) 86 e86
theorem f48GOk : GOk Try.prog f48G := ((GOk.nil).add e85ok (by kernel_rfl)).add e86ok (by kernel_rfl)
noncomputable def f48lE : Clean := ⟨[], [], [], [], []⟩
noncomputable def f48s0 (v0 : Int × Int × List Int) (v1 : List Int) : St := initSt f48sig.ps (v0, (v1, ()))
noncomputable def f48s1 (v4 : List (List Int)) (v5 : Bool) : St := stOf [(4, .c (.own 1000256)), (5, .c (.bool v5))] [] [(1000256, (⟨24, .sl 3 (.int .i64), v4, true, false⟩ : Row))]
noncomputable def f48l1 : Clean := ⟨[4, 5], [], [⟨⟨false, 4, 0⟩, 30000000, 24, .sl 3 (.int .i64), true⟩], [], [(⟨false, 4, 0⟩, 1000256)]⟩
noncomputable def f48B : Nat → Option Clean := lookL [(1000000, f48l1)]
noncomputable abbrev f48i {ρ : Type} (N : Nat) (c : Code) (p : Plan) (σ : St) (K : KT ρ) : Option ρ := iCode f48G tab f48B N c p σ K
noncomputable def f48c0 := codeAt (bodyOf Try.f48) []
theorem f48t0 {ρ : Type} (N : Nat) (v0 : Int × Int × List Int) (v1 : List Int) (K : KT ρ) : f48i N f48c0 .n (f48s0 v0 v1) (joinK (some f48lE) K) =
  spec_CVectorsOf.Z0 N v0 v1 (fun v4 v5 => K .ret (f48s1 v4 v5)) := by kernel_rfl
theorem f48m (N : Nat) (v0 : Int × Int × List Int) (v1 : List Int) : f48i N f48c0 .n (f48s0 v0 v1) (joinK (some f48lE) (finK tab f48sig Try.f48.results.toList)) = spec_CVectorsOf.Z0 N v0 v1 (fun v4 v5 => some ((), (v4, (v5, ())))) :=
  (f48t0 N v0 v1 (finK tab f48sig Try.f48.results.toList)).trans (by kernel_rfl)
theorem f48ok (h : spec_CVectorsOf.Spec) : EntryOk Try.prog 48 e48 :=
  entry_of_code (sig := f48sig) (c := f48c0) (pl := .n) (je := (some f48lE)) (B := f48B) Try.func48 (by kernel_rfl) (by kernel_rfl) (by kernel_rfl) tabOk f48GOk (by kernel_rfl) (by kernel_rfl) (by kernel_rfl) (by kernel_rfl) fun X hb hp => by
    obtain ⟨v0, v1, _⟩ := X
    obtain ⟨N, h⟩ := h v0 v1 hb.1 hb.2.1
    exact ⟨N, (f48m N v0 v1).trans (h N (Nat.le_refl N))⟩
theorem e48ok : EntryOk Try.prog 48 e48 := f48ok spec_CVectorsOf.ok
end Go.Fw
set_option linter.unusedVariables false
set_option linter.unusedSimpArgs false
set_option maxRecDepth 100000
namespace Go.Fw
open Go.Proofs
/-! ### loop.example/g03115/impl.within -/
noncomputable def f65sig : Sig := ⟨[⟨.int .i64, false, false⟩, ⟨.int .i64, false, false⟩, ⟨.int .i64, false, false⟩], [⟨.bool, false, false⟩]⟩
noncomputable def e65 : Entry := ⟨f65sig, none, fun X => ((), ((impl_within.g X.1 X.2.1 X.2.2.1), ()))⟩
noncomputable def f65G : Nat → Option Entry := (fun _ => none)
theorem f65GOk : GOk Try.prog f65G := GOk.nil
noncomputable def f65lE : Clean := ⟨[], [], [], [], []⟩
noncomputable def f65s0 (v0 v1 v2 : Int) : St := initSt f65sig.ps (v0, (v1, (v2, ())))
noncomputable def f65s1 (v6 : Bool) : St := stOf [(6, .c (.bool v6))] [] []
noncomputable def f65l1 : Clean := ⟨[6], [], [], [], []⟩
noncomputable def f65B : Nat → Option Clean := lookL [(1000000, f65l1)]
noncomputable abbrev f65i {ρ : Type} (N : Nat) (c : Code) (p : Plan) (σ : St) (K : KT ρ) : Option ρ := iCode f65G tab f65B N c p σ K
noncomputable def f65c0 := codeAt (bodyOf Try.f65) []
theorem f65t0 {ρ : Type} (N : Nat) (v0 v1 v2 : Int) (K : KT ρ) : f65i N f65c0 .n (f65s0 v0 v1 v2) (joinK (some f65lE) K) =
  impl_within.Z0 N v0 v1 v2 (fun v6 => K .ret (f65s1 v6)) := by kernel_rfl
theorem f65m (N : Nat) (v0 v1 v2 : Int) : f65i N f65c0 .n (f65s0 v0 v1 v2) (joinK (some f65lE) (finK tab f65sig Try.f65.results.toList)) = impl_within.Z0 N v0 v1 v2 (fun v6 => some ((), (v6, ()))) :=
  (f65t0 N v0 v1 v2 (finK tab f65sig Try.f65.results.toList)).trans (by kernel_rfl)
theorem f65ok (h : impl_within.Spec) : EntryOk Try.prog 65 e65 :=
  entry_of_code (sig := f65sig) (c := f65c0) (pl := .n) (je := (some f65lE)) (B := f65B) Try.func65 (by kernel_rfl) (by kernel_rfl) (by kernel_rfl) tabOk f65GOk (by kernel_rfl) (by kernel_rfl) (by kernel_rfl) (by kernel_rfl) fun X hb hp => by
    obtain ⟨v0, v1, v2, _⟩ := X
    obtain ⟨N, h⟩ := h v0 v1 v2
    exact ⟨N, (f65m N v0 v1 v2).trans (h N (Nat.le_refl N))⟩
theorem e65ok : EntryOk Try.prog 65 e65 := f65ok impl_within.ok
end Go.Fw
set_option linter.unusedVariables false
set_option linter.unusedSimpArgs false
set_option maxRecDepth 100000
namespace Go.Fw
open Go.Proofs
/-! ### loop.example/g03115/impl.shaped$1 -/
noncomputable def f96sig : Sig := ⟨[⟨.int .i64, false, false⟩], [⟨.bool, false, false⟩]⟩
noncomputable def e96 : Entry := ⟨f96sig, none, fun X => ((), ((impl_shaped_1.g X.1), ()))⟩
noncomputable def f96G : Nat → Option Entry := addG (fun _ => none) 65 e65
theorem f96GOk : GOk Try.prog f96G := (GOk.nil).add e65ok (by kernel_rfl)
noncomputable def f96lE : Clean := ⟨[], [], [], [], []⟩
noncomputable def f96s0 (v0 : Int) : St := initSt f96sig.ps (v0, ())
noncomputable def f96s1 (v2 : Bool) : St := stOf [(2, .c (.bool v2))] [] []
noncomputable def f96l1 : Clean := ⟨[2], [], [], [], []⟩
noncomputable def f96B : Nat → Option Clean := lookL [(1000000, f96l1)]
noncomputable abbrev f96i {ρ : Type} (N : Nat) (c : Code) (p : Plan) (σ : St) (K : KT ρ) : Option ρ := iCode f96G tab f96B N c p σ K
noncomputable def f96c0 := codeAt (bodyOf Try.f96) []
theorem f96t0 {ρ : Type} (N : Nat) (v0 : Int) (K : KT ρ) : f96i N f96c0 .n (f96s0 v0) (joinK (some f96lE) K) =
  impl_shaped_1.Z0 N v0 (fun v2 => K .ret (f96s1 v2)) := by kernel_rfl
theorem f96m (N : Nat) (v0 : Int) : f96i N f96c0 .n (f96s0 v0) (joinK (some f96lE) (finK tab f96sig Try.f96.results.toList)) = impl_shaped_1.Z0 N v0 (fun v2 => some ((), (v2, ()))) :=
  (f96t0 N v0 (finK tab f96sig Try.f96.results.toList)).trans (by kernel_rfl)
theorem f96ok (h : impl_shaped_1.Spec) : EntryOk Try.prog 96 e96 :=
  entry_of_code (sig := f96sig) (c := f96c0) (pl := .n) (je := (some f96lE)) (B := f96B) Try.func96 (by kernel_rfl) (by kernel_rfl) (by kernel_rfl) tabOk f96GOk (by kernel_rfl) (by kernel_rfl) (by kernel_rfl) (by kernel_rfl) fun X hb hp => by
    obtain ⟨v0, _⟩ := X
    obtain ⟨N, h⟩ := h v0
    exact ⟨N, (f96m N v0).trans (h N (Nat.le_refl N))⟩
theorem e96ok : EntryOk Try.prog 96 e96 := f96ok impl_shaped_1.ok
end Go.Fw
set_option linter.unusedVariables false
set_option linter.unusedSimpArgs false
set_option maxRecDepth 100000
namespace Go.Fw
open Go.Proofs
/-! ### slices.IndexFunc[[]int,int] -/
noncomputable def f113bsig : Sig := ⟨[⟨.sl 3 (.int .i64), false, false⟩, ⟨.fnc 96, false, false⟩], [⟨.int .i64, false, false⟩]⟩
noncomputable def e113b : Entry := ⟨f113bsig, none, fun X => ((), ((slices_IndexFunc_int_int_shaped.g X.1 X.2.1), ()))⟩
noncomputable def f113bG : Nat → Option Entry := addG (fun _ => none) 96 e96
theorem f113bGOk : GOk Try.prog f113bG := (GOk.nil).add e96ok (by kernel_rfl)
noncomputable def f113blE : Clean := ⟨[], [], [], [], []⟩
noncomputable def f113bs0 (v0 : List Int) (v1 : Unit) : St := initSt f113bsig.ps (v0, (v1, ()))
noncomputable def f113bs1 (v0 : List Int) : St := stOf [(0, .c (.sn 3 (.int .i64) v0 none)), (1, .c (.fn 96 []))] [] []
noncomputable def f113bl1 : Clean := ⟨[0, 1], [], [], [], []⟩
noncomputable def f113bs2 (v0 : List Int) (v7 v8 : Int) : St := stOf [(0, .c (.sn 3 (.int .i64) v0 none)), (1, .c (.fn 96 [])), (7, .c (.int .i64 v7)), (8, .c (.int .i64 v8))] [] []
noncomputable def f113bl2 : Clean := ⟨[0, 1, 7, 8], [], [], [], []⟩
noncomputable def f113bs3  : St := stOf [] [] []
noncomputable def f113bl3 : Clean := ⟨[], [], [], [], []⟩
noncomputable def f113bs4 (v4 : Int) : St := stOf [(4, .c (.int .i64 v4))] [] []
noncomputable def f113bl4 : Clean := ⟨[4], [], [], [], []⟩
noncomputable def f113bB : Nat → Option Clean := lookL [(0, f113bl3), (1000000, f113bl4)]
noncomputable abbrev f113bi {ρ : Type} (N : Nat) (c : Code) (p : Plan) (σ : St) (K : KT ρ) : Option ρ := iCode f113bG tab f113bB N c p σ K
noncomputable def f113bc1 := codeAt (bodyOf Try.f113) [0]
theorem f113bt1 {ρ : Type} (N : Nat) (v0 : List Int) (v1 : Unit) (K : KT ρ) : f113bi N f113bc1 .n (f113bs0 v0 v1) (joinK (some f113bl1) K) =
  slices_IndexFunc_int_int_shaped.Z1 N v0 v1 (fun v0 => K .nrm (f113bs1 v0)) := by kernel_rfl
noncomputable def f113bc4 := codeAt (bodyOf Try.f113) [1,0,0]
theorem f113bt4 {ρ : Type} (N : Nat) (v0 : List Int) (K : KT ρ) : f113bi N f113bc4 .n (f113bs1 v0) (joinK (some f113bl2) K) =
  slices_IndexFunc_int_int_shaped.Z4 N v0 (fun v0 v7 v8 => K .nrm (f113bs2 v0 v7 v8)) := by kernel_rfl
noncomputable def f113bc7 := codeAt (bodyOf Try.f113) [1,0,1,0,0]
theorem f113bt7 {ρ : Type} (N : Nat) (v0 : List Int) (v7 v8 : Int) (K : KT ρ) : f113bi N f113bc7 .n (f113bs2 v0 v7 v8) (joinK (some f113bl2) K) =
  slices_IndexFunc_int_int_shaped.Z7 N v0 v7 v8 (fun v0 v7 v8 => K .nrm (f113bs2 v0 v7 v8)) (K (.exit 0) f113bs3) (fun v4 => K .ret (f113bs4 v4)) := by kernel_rfl
noncomputable def f113bc6 := codeAt (bodyOf Try.f113) [1,0,1,0]
noncomputable def f113bp6 : Plan := .mk none (some f113bl2) .n .n
noncomputable abbrev f113bw6 {ρ : Type} (N M : Nat) (σ : St) (K : KT ρ) : Option ρ := loopC (fun σ K => f113bi N f113bc7 .n σ K) f113bl2 M σ K
theorem f113bt6L {ρ : Type} (N : Nat) (K : KT ρ) : ∀ (M : Nat) (v0 : List Int) (v7 v8 : Int), f113bw6 N M (f113bs2 v0 v7 v8) K =
  slices_IndexFunc_int_int_shaped.Z6L N (K (.exit 0) f113bs3) (fun v4 => K .ret (f113bs4 v4)) M v0 v7 v8
  | 0, _, _, _ => rfl
  | M + 1, v0, v7, v8 => viaRound (fun k => slices_IndexFunc_int_int_shaped.Z7 N v0 v7 v8 k (K (.exit 0) f113bs3) (fun v4 => K .ret (f113bs4 v4))) (f113bt7 N v0 v7 v8 (seqK (fun σ => f113bw6 N M σ K) K)) (funext fun v0 => funext fun v7 => funext fun v8 => f113bt6L N K M v0 v7 v8) (by kernel_rfl) (by kernel_rfl)
theorem f113bt6 {ρ : Type} (N : Nat) (v0 : List Int) (v7 v8 : Int) (K : KT ρ) : f113bi N f113bc6 f113bp6 (f113bs2 v0 v7 v8) (joinK (some f113bl3) K) =
  slices_IndexFunc_int_int_shaped.Z6 N v0 v7 v8 (K (.exit 0) f113bs3) (fun v4 => K .ret (f113bs4 v4)) :=
  viaLoop (by kernel_rfl) (by kernel_rfl) (σ' := f113bs2 v0 v7 v8) (by kernel_rfl) (f113bt6L N (joinK (some f113bl3) K) N v0 v7 v8) (by kernel_rfl)
noncomputable def f113bc5 := codeAt (bodyOf Try.f113) [1,0,1]
noncomputable def f113bp5 : Plan := .mk (some f113bl3) none f113bp6 .n
theorem f113bt5 {ρ : Type} (N : Nat) (v0 : List Int) (v7 v8 : Int) (K : KT ρ) : f113bi N f113bc5 f113bp5 (f113bs2 v0 v7 v8) (joinK (some f113bl3) K) =
  slices_IndexFunc_int_int_shaped.Z5 N v0 v7 v8 (K .nrm f113bs3) (fun v4 => K .ret (f113bs4 v4)) :=
  viaBlock (by kernel_rfl) (by kernel_rfl) (f113bt6 N v0 v7 v8 (blockK 0 (joinK (some f113bl3) K))) (by kernel_rfl)
noncomputable def f113bc3 := codeAt (bodyOf Try.f113) [1,0]
noncomputable def f113bp3 : Plan := .mk (some f113bl2) none .n f113bp5
theorem f113bt3 {ρ : Type} (N : Nat) (v0 : List Int) (K : KT ρ) : f113bi N f113bc3 f113bp3 (f113bs1 v0) (joinK (some f113bl3) K) =
  slices_IndexFunc_int_int_shaped.Z3 N v0 (K .nrm f113bs3) (fun v4 => K .ret (f113bs4 v4)) :=
  viaSeq (fun k => slices_IndexFunc_int_int_shaped.Z4 N v0 k) (by kernel_rfl) (by kernel_rfl) (f113bt4 N v0 (seqK (fun σ => f113bi N f113bc5 f113bp5 σ (joinK (some f113bl3) K)) (joinK (some f113bl3) K))) (funext fun v0 => funext fun v7 => funext fun v8 => f113bt5 N v0 v7 v8 K) (by kernel_rfl) (by kernel_rfl)
noncomputable def f113bc8 := codeAt (bodyOf Try.f113) [1,1]
theorem f113bt8 {ρ : Type} (N : Nat)  (K : KT ρ) : f113bi N f113bc8 .n f113bs3 (joinK (some f113blE) K) =
  slices_IndexFunc_int_int_shaped.Z8 N (fun v4 => K .ret (f113bs4 v4)) := by kernel_rfl
noncomputable def f113bc2 := codeAt (bodyOf Try.f113) [1]
noncomputable def f113bp2 : Plan := .mk (some f113bl3) none f113bp3 .n
theorem f113bt2 {ρ : Type} (N : Nat) (v0 : List Int) (K : KT ρ) : f113bi N f113bc2 f113bp2 (f113bs1 v0) (joinK (some f113blE) K) =
  slices_IndexFunc_int_int_shaped.Z2 N v0 (fun v4 => K .ret (f113bs4 v4)) :=
  viaSeq (fun k => slices_IndexFunc_int_int_shaped.Z3 N v0 k (fun v4 => K .ret (f113bs4 v4))) (by kernel_rfl) (by kernel_rfl) (f113bt3 N v0 (seqK (fun σ => f113bi N f113bc8 .n σ (joinK (some f113blE) K)) (joinK (some f113blE) K))) (f113bt8 N K) (by kernel_rfl) (by kernel_rfl)
noncomputable def f113bc0 := codeAt (bodyOf Try.f113) []
noncomputable def f113bp0 : Plan := .mk (some f113bl1) none .n f113bp2
theorem f113bt0 {ρ : Type} (N : Nat) (v0 : List Int) (v1 : Unit) (K : KT ρ) : f113bi N f113bc0 f113bp0 (f113bs0 v0 v1) (joinK (some f113blE) K) =
  slices_IndexFunc_int_int_shaped.Z0 N v0 v1 (fun v4 => K .ret (f113bs4 v4)) :=
  viaSeq (fun k => slices_IndexFunc_int_int_shaped.Z1 N v0 v1 k) (by kernel_rfl) (by kernel_rfl) (f113bt1 N v0 v1 (seqK (fun σ => f113bi N f113bc2 f113bp2 σ (joinK (some f113blE) K)) (joinK (some f113blE) K))) (funext fun v0 => f113bt2 N v0 K) (by kernel_rfl) (by kernel_rfl)
theorem f113bm (N : Nat) (v0 : List Int) (v1 : Unit) : f113bi N f113bc0 f113bp0 (f113bs0 v0 v1) (joinK (some f113blE) (finK tab f113bsig Try.f113.results.toList)) = slices_IndexFunc_int_int_shaped.Z0 N v0 v1 (fun v4 => some ((), (v4, ()))) :=
  (f113bt0 N v0 v1 (finK tab f113bsig Try.f113.results.toList)).trans (by kernel_rfl)
theorem f113bok (h : slices_IndexFunc_int_int_shaped.Spec) : EntryOk Try.prog 113 e113b :=
  entry_of_code (sig := f113bsig) (c := f113bc0) (pl := f113bp0) (je := (some f113blE)) (B := f113bB) Try.func113 (by kernel_rfl) (by kernel_rfl) (by kernel_rfl) tabOk f113bGOk (by kernel_rfl) (by kernel_rfl) (by kernel_rfl) (by kernel_rfl) fun X hb hp => by
    obtain ⟨v0, v1, _⟩ := X
    obtain ⟨N, h⟩ := h v0 v1 hb.1
    exact ⟨N, (f113bm N v0 v1).trans (h N (Nat.le_refl N))⟩
theorem e113bok : EntryOk Try.prog 113 e113b := f113bok slices_IndexFunc_int_int_shaped.ok
end Go.Fw
set_option linter.unusedVariables false
set_option linter.unusedSimpArgs false
set_option maxRecDepth 100000
namespace Go.Fw
open Go.Proofs
/-! ### slices.ContainsFunc[[]int,int] -/
noncomputable def f95bsig : Sig := ⟨[⟨.sl 3 (.int .i64), false, false⟩, ⟨.fnc 96, false, false⟩], [⟨.bool, false, false⟩]⟩
noncomputable def e95b : Entry := ⟨f95bsig, none, fun X => ((), ((slices_ContainsFunc_int_int_shaped.g X.1 X.2.1), ()))⟩
noncomputable def f95bG : Nat → Option Entry := addG (fun _ => none) 113 e113b
theorem f95bGOk : GOk Try.prog f95bG := (GOk.nil).add e113bok (by kernel_rfl)
noncomputable def f95blE : Clean := ⟨[], [], [], [], []⟩
noncomputable def f95bs0 (v0 : List Int) (v1 : Unit) : St := initSt f95bsig.ps (v0, (v1, ()))
noncomputable def f95bs1 (v4 : Bool) : St := stOf [(4, .c (.bool v4))] [] []
noncomputable def f95bl1 : Clean := ⟨[4], [], [], [], []⟩
noncomputable def f95bB : Nat → Option Clean := lookL [(1000000, f95bl1)]
noncomputable abbrev f95bi {ρ : Type} (N : Nat) (c : Code) (p : Plan) (σ : St) (K : KT ρ) : Option ρ := iCode f95bG tab f95bB N c p σ K
noncomputable def f95bc0 := codeAt (bodyOf Try.f95) []
theorem f95bt0 {ρ : Type} (N : Nat) (v0 : List Int) (v1 : Unit) (K : KT ρ) : f95bi N f95bc0 .n (f95bs0 v0 v1) (joinK (some f95blE) K) =
  slices_ContainsFunc_int_int_shaped.Z0 N v0 v1 (fun v4 => K .ret (f95bs1 v4)) := by kernel_rfl
theorem f95bm (N : Nat) (v0 : List Int) (v1 : Unit) : f95bi N f95bc0 .n (f95bs0 v0 v1) (joinK (some f95blE) (finK tab f95bsig Try.f95.results.toList)) = slices_ContainsFunc_int_int_shaped.Z0 N v0 v1 (fun v4 => some ((), (v4, ()))) :=
  (f95bt0 N v0 v1 (finK tab f95bsig Try.f95.results.toList)).trans (by kernel_rfl)
theorem f95bok (h : slices_ContainsFunc_int_int_shaped.Spec) : EntryOk Try.prog 95 e95b :=
  entry_of_code (sig := f95bsig) (c := f95bc0) (pl := .n) (je := (some f95blE)) (B := f95bB) Try.func95 (by kernel_rfl) (by kernel_rfl) (by kernel_rfl) tabOk f95bGOk (by kernel_rfl) (by kernel_rfl) (by kernel_rfl) (by kernel_rfl) fun X hb hp => by
    obtain ⟨v0, v1, _⟩ := X
    obtain ⟨N, h⟩ := h v0 v1 hb.1
    exact ⟨N, (f95bm N v0 v1).trans (h N (Nat.le_refl N))⟩
theorem e95bok : EntryOk Try.prog 95 e95b := f95bok slices_ContainsFunc_int_int_shaped.ok
end Go.Fw
set_option linter.unusedVariables false
set_option linter.unusedSimpArgs false
set_option maxRecDepth 100000
namespace Go.Fw
open Go.Proofs
/-! ### loop.example/g03115/impl.shaped -/
noncomputable def f63sig : Sig := ⟨[⟨.pair (.int .i64) (.pair (.int .i64) (.sl 3 (.int .i64))), true, false⟩], [⟨.bool, false, false⟩]⟩
noncomputable def e63 : Entry := ⟨f63sig, none, fun X => ((), ((impl_shaped.g X.1), ()))⟩
noncomputable def f63G : Nat → Option Entry := addG (addG (fun _ => none) 65 e65) 95 e95b
theorem f63GOk : GOk Try.prog f63G := ((GOk.nil).add e65ok (by kernel_rfl)).add e95bok (by kernel_rfl)
noncomputable def f63lE : Clean := ⟨[], [], [], [], []⟩
noncomputable def f63s0 (v0 : Int × Int × List Int) : St := initSt f63sig.ps (v0, ())
noncomputable def f63s1 (v2 : Bool) : St := stOf [(2, .c (.bool v2))] [] []
noncomputable def f63l1 : Clean := ⟨[2], [], [], [], []⟩
noncomputable def f63B : Nat → Option Clean := lookL [(1000000, f63l1)]
noncomputable abbrev f63i {ρ : Type} (N : Nat) (c : Code) (p : Plan) (σ : St) (K : KT ρ) : Option ρ := iCode f63G tab f63B N c p σ K
noncomputable def f63c0 := codeAt (bodyOf Try.f63) []
theorem f63t0 {ρ : Type} (N : Nat) (v0 : Int × Int × List Int) (K : KT ρ) : f63i N f63c0 .n (f63s0 v0) (joinK (some f63lE) K) =
  impl_shaped.Z0 N v0 (fun v2 => K .ret (f63s1 v2)) := by kernel_rfl
theorem f63m (N : Nat) (v0 : Int × Int × List Int) : f63i N f63c0 .n (f63s0 v0) (joinK (some f63lE) (finK tab f63sig Try.f63.results.toList)) = impl_shaped.Z0 N v0 (fun v2 => some ((), (v2, ()))) :=
  (f63t0 N v0 (finK tab f63sig Try.f63.results.toList)).trans (by kernel_rfl)
theorem f63ok (h : impl_shaped.Spec) : EntryOk Try.prog 63 e63 :=
  entry_of_code (sig := f63sig) (c := f63c0) (pl := .n) (je := (some f63lE)) (B := f63B) Try.func63 (by kernel_rfl) (by kernel_rfl) (by kernel_rfl) tabOk f63GOk (by kernel_rfl) (by kernel_rfl) (by kernel_rfl) (by kernel_rfl) fun X hb hp => by
    obtain ⟨v0, _⟩ := X
    obtain ⟨N, h⟩ := h v0 hb.1
    exact ⟨N, (f63m N v0).trans (h N (Nat.le_refl N))⟩
theorem e63ok : EntryOk Try.prog 63 e63 := f63ok impl_shaped.ok
end Go.Fw
set_option linter.unusedVariables false
set_option linter.unusedSimpArgs false
set_option maxRecDepth 100000
namespace Go.Fw
open Go.Proofs
/-! ### (loop.example/g03115/impl.Matrix).at -/
noncomputable def f60sig : Sig := ⟨[⟨.pair (.int .i64) (.pair (.int .i64) (.sl 3 (.int .i64))), true, false⟩, ⟨.int .i64, false, false⟩, ⟨.int .i64, false, false⟩], [⟨.int .i64, false, false⟩]⟩
noncomputable def e60 : Entry := ⟨f60sig, (some fun X => impl_Matrix_at.P X.1 X.2.1 X.2.2.1), fun X => ((), ((impl_Matrix_at.g X.1 X.2.1 X.2.2.1), ()))⟩
noncomputable def f60G : Nat → Option Entry := (fun _ => none)
theorem f60GOk : GOk Try.prog f60G := GOk.nil
noncomputable def f60lE : Clean := ⟨[], [], [], [], []⟩
noncomputable def f60s0 (v0 : Int × Int × List Int) (v1 v2 : Int) : St := initSt f60sig.ps (v0, (v1, (v2, ())))
noncomputable def f60s1 (v6 : Int) : St := stOf [(6, .c (.int .i64 v6))] [] []
noncomputable def f60l1 : Clean := ⟨[6], [], [], [], []⟩
noncomputable def f60B : Nat → Option Clean := lookL [(1000000, f60l1)]
noncomputable abbrev f60i {ρ : Type} (N : Nat) (c : Code) (p : Plan) (σ : St) (K : KT ρ) : Option ρ := iCode f60G tab f60B N c p σ K
noncomputable def f60c0 := codeAt (bodyOf Try.f60) []
theorem f60t0 {ρ : Type} (N : Nat) (v0 : Int × Int × List Int) (v1 v2 : Int) (K : KT ρ) : f60i N f60c0 .n (f60s0 v0 v1 v2) (joinK (some f60lE) K) =
  impl_Matrix_at.Z0 N v0 v1 v2 (fun v6 => K .ret (f60s1 v6)) := by kernel_rfl
theorem f60m (N : Nat) (v0 : Int × Int × List Int) (v1 v2 : Int) : f60i N f60c0 .n (f60s0 v0 v1 v2) (joinK (some f60lE) (finK tab f60sig Try.f60.results.toList)) = impl_Matrix_at.Z0 N v0 v1 v2 (fun v6 => some ((), (v6, ()))) :=
  (f60t0 N v0 v1 v2 (finK tab f60sig Try.f60.results.toList)).trans (by kernel_rfl)
theorem f60ok (h : impl_Matrix_at.Spec) : EntryOk Try.prog 60 e60 :=
  entry_of_code (sig := f60sig) (c := f60c0) (pl := .n) (je := (some f60lE)) (B := f60B) Try.func60 (by kernel_rfl) (by kernel_rfl) (by kernel_rfl) tabOk f60GOk (by kernel_rfl) (by kernel_rfl) (by kernel_rfl) (by kernel_rfl) fun X hb hp => by
    obtain ⟨v0, v1, v2, _⟩ := X
    obtain ⟨N, h⟩ := h v0 v1 v2 hb.1 hp
    exact ⟨N, (f60m N v0 v1 v2).trans (h N (Nat.le_refl N))⟩
theorem e60ok : EntryOk Try.prog 60 e60 := f60ok impl_Matrix_at.ok
end Go.Fw
set_option linter.unusedVariables false
set_option linter.unusedSimpArgs false
set_option maxRecDepth 100000
namespace Go.Fw
open Go.Proofs
/-! ### loop.example/g03115/impl.gcd -/
noncomputable def f97sig : Sig := ⟨[⟨.int .i64, false, false⟩, ⟨.int .i64, false, false⟩], [⟨.int .i64, false, false⟩]⟩
noncomputable def e97 : Entry := ⟨f97sig, (some fun X => impl_gcd.P X.1 X.2.1), fun X => ((), ((impl_gcd.g X.1 X.2.1), ()))⟩
noncomputable def f97G : Nat → Option Entry := (fun _ => none)
theorem f97GOk : GOk Try.prog f97G := GOk.nil
noncomputable def f97lE : Clean := ⟨[], [], [], [], []⟩
noncomputable def f97s0 (v0 v1 : Int) : St := initSt f97sig.ps (v0, (v1, ()))
noncomputable def f97s1 (v0 v1 : Int) : St := stOf [(0, .c (.int .i64 v0)), (1, .c (.int .i64 v1))] [] []
noncomputable def f97l1 : Clean := ⟨[0, 1], [], [], [], []⟩
noncomputable def f97s2 (v0 : Int) : St := stOf [(0, .c (.int .i64 v0))] [] []
noncomputable def f97l2 : Clean := ⟨[0], [], [], [], []⟩
noncomputable def f97s3 (v4 : Int) : St := stOf [(4, .c (.int .i64 v4))] [] []
noncomputable def f97l3 : Clean := ⟨[4], [], [], [], []⟩
noncomputable def f97B : Nat → Option Clean := lookL [(0, f97l2), (1000000, f97l3)]
noncomputable abbrev f97i {ρ : Type} (N : Nat) (c : Code) (p : Plan) (σ : St) (K : KT ρ) : Option ρ := iCode f97G tab f97B N c p σ K
noncomputable def f97c1 := codeAt (bodyOf Try.f97) [0]
theorem f97t1 {ρ : Type} (N : Nat) (v0 v1 : Int) (K : KT ρ) : f97i N f97c1 .n (f97s0 v0 v1) (joinK (some f97l1) K) =
  impl_gcd.Z1 N v0 v1 (fun v0 v1 => K .nrm (f97s1 v0 v1)) := by kernel_rfl
noncomputable def f97c5 := codeAt (bodyOf Try.f97) [1,0,0,0]
theorem f97t5 {ρ : Type} (N : Nat) (v0 v1 : Int) (K : KT ρ) : f97i N f97c5 .n (f97s1 v0 v1) (joinK (some f97l1) K) =
  impl_gcd.Z5 N v0 v1 (fun v0 v1 => K .nrm (f97s1 v0 v1)) (fun v0 => K (.exit 0) (f97s2 v0)) := by kernel_rfl
noncomputable def f97c4 := codeAt (bodyOf Try.f97) [1,0,0]
noncomputable def f97p4 : Plan := .mk none (some f97l1) .n .n
noncomputable abbrev f97w4 {ρ : Type} (N M : Nat) (σ : St) (K : KT ρ) : Option ρ := loopC (fun σ K => f97i N f97c5 .n σ K) f97l1 M σ K
theorem f97t4L {ρ : Type} (N : Nat) (K : KT ρ) : ∀ (M : Nat) (v0 v1 : Int), f97w4 N M (f97s1 v0 v1) K =
  impl_gcd.Z4L N (fun v0 => K (.exit 0) (f97s2 v0)) M v0 v1
  | 0, _, _ => rfl
  | M + 1, v0, v1 => viaRound (fun k => impl_gcd.Z5 N v0 v1 k (fun v0 => K (.exit 0) (f97s2 v0))) (f97t5 N v0 v1 (seqK (fun σ => f97w4 N M σ K) K)) (funext fun v0 => funext fun v1 => f97t4L N K M v0 v1) (by kernel_rfl) (by kernel_rfl)
theorem f97t4 {ρ : Type} (N : Nat) (v0 v1 : Int) (K : KT ρ) : f97i N f97c4 f97p4 (f97s1 v0 v1) (joinK (some f97l2) K) =
  impl_gcd.Z4 N v0 v1 (fun v0 => K (.exit 0) (f97s2 v0)) :=
  viaLoop (by kernel_rfl) (by kernel_rfl) (σ' := f97s1 v0 v1) (by kernel_rfl) (f97t4L N (joinK (some f97l2) K) N v0 v1) (by kernel_rfl)
noncomputable def f97c3 := codeAt (bodyOf Try.f97) [1,0]
noncomputable def f97p3 : Plan := .mk (some f97l2) none f97p4 .n
theorem f97t3 {ρ : Type} (N : Nat) (v0 v1 : Int) (K : KT ρ) : f97i N f97c3 f97p3 (f97s1 v0 v1) (joinK (some f97l2) K) =
  impl_gcd.Z3 N v0 v1 (fun v0 => K .nrm (f97s2 v0)) :=
  viaBlock (by kernel_rfl) (by kernel_rfl) (f97t4 N v0 v1 (blockK 0 (joinK (some f97l2) K))) (by kernel_rfl)
noncomputable def f97c6 := codeAt (bodyOf Try.f97) [1,1]
theorem f97t6 {ρ : Type} (N : Nat) (v0 : Int) (K : KT ρ) : f97i N f97c6 .n (f97s2 v0) (joinK (some f97lE) K) =
  impl_gcd.Z6 N v0 (fun v4 => K .ret (f97s3 v4)) := by kernel_rfl
noncomputable def f97c2 := codeAt (bodyOf Try.f97) [1]
noncomputable def f97p2 : Plan := .mk (some f97l2) none f97p3 .n
theorem f97t2 {ρ : Type} (N : Nat) (v0 v1 : Int) (K : KT ρ) : f97i N f97c2 f97p2 (f97s1 v0 v1) (joinK (some f97lE) K) =
  impl_gcd.Z2 N v0 v1 (fun v4 => K .ret (f97s3 v4)) :=
  viaSeq (fun k => impl_gcd.Z3 N v0 v1 k) (by kernel_rfl) (by kernel_rfl) (f97t3 N v0 v1 (seqK (fun σ => f97i N f97c6 .n σ (joinK (some f97lE) K)) (joinK (some f97lE) K))) (funext fun v0 => f97t6 N v0 K) (by kernel_rfl) (by kernel_rfl)
noncomputable def f97c0 := codeAt (bodyOf Try.f97) []
noncomputable def f97p0 : Plan := .mk (some f97l1) none .n f97p2
theorem f97t0 {ρ : Type} (N : Nat) (v0 v1 : Int) (K : KT ρ) : f97i N f97c0 f97p0 (f97s0 v0 v1) (joinK (some f97lE) K) =
  impl_gcd.Z0 N v0 v1 (fun v4 => K .ret (f97s3 v4)) :=
  viaSeq (fun k => impl_gcd.Z1 N v0 v1 k) (by kernel_rfl) (by kernel_rfl) (f97t1 N v0 v1 (seqK (fun σ => f97i N f97c2 f97p2 σ (joinK (some f97lE) K)) (joinK (some f97lE) K))) (funext fun v0 => funext fun v1 => f97t2 N v0 v1 K) (by kernel_rfl) (by kernel_rfl)
theorem f97m (N : Nat) (v0 v1 : Int) : f97i N f97c0 f97p0 (f97s0 v0 v1) (joinK (some f97lE) (finK tab f97sig Try.f97.results.toList)) = impl_gcd.Z0 N v0 v1 (fun v4 => some ((), (v4, ()))) :=
  (f97t0 N v0 v1 (finK tab f97sig Try.f97.results.toList)).trans (by kernel_rfl)
theorem f97ok (h : impl_gcd.Spec) : EntryOk Try.prog 97 e97 :=
  entry_of_code (sig := f97sig) (c := f97c0) (pl := f97p0) (je := (some f97lE)) (B := f97B) Try.func97 (by kernel_rfl) (by kernel_rfl) (by kernel_rfl) tabOk f97GOk (by kernel_rfl) (by kernel_rfl) (by kernel_rfl) (by kernel_rfl) fun X hb hp => by
    obtain ⟨v0, v1, _⟩ := X
    obtain ⟨N, h⟩ := h v0 v1 hp
    exact ⟨N, (f97m N v0 v1).trans (h N (Nat.le_refl N))⟩
theorem e97ok : EntryOk Try.prog 97 e97 := f97ok impl_gcd.ok
end Go.Fw
