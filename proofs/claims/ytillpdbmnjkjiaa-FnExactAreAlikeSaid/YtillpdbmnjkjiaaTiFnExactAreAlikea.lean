/- The ties: the program's text comes to the plain functions. Nothing is assumed. -/
import Derived.Test.YtillpdbmnjkjiaaFwc
import Derived.Test.YtillpdbmnjkjiaaProg
import Derived.Test.YtillpdbmnjkjiaaPuFnExactAreAlikea
import Derived.Test.YtillpdbmnjkjiaaPuFnExactAreAlikeb
import Derived.Test.YtillpdbmnjkjiaaFza
import Derived.Test.YtillpdbmnjkjiaaChecked
set_option linter.unusedVariables false
set_option linter.unusedSimpArgs false
set_option maxRecDepth 100000
namespace Go.Fw
open Go.Proofs
def tab : Tab := lookTab [
  (2, ⟨false, .int .i64, [.int .i64 0], [], none, 8⟩),
  (3, ⟨false, .int .i64, [.int .i64 0], [], none, 8⟩),
  (4, ⟨false, .bool, [.bool false], [], none, 1⟩),
  (5, ⟨false, .int .u8, [.int .u8 0], [], none, 1⟩),
  (6, ⟨false, .int .u8, [.int .u8 0], [], none, 1⟩),
  (7, ⟨true, .pair (.int .i64) (.pair (.int .i64) (.pair (.bool) (.int .u8))), [.int .i64 0, .int .i64 0, .bool false, .int .u8 0], [(0, 1, false), (1, 1, false), (2, 1, false), (3, 1, false)], none, 24⟩),
  (8, ⟨true, .pair (.int .i64) (.pair (.int .i64) (.pair (.bool) (.int .u8))), [.int .i64 0, .int .i64 0, .bool false, .int .u8 0], [(0, 1, false), (1, 1, false), (2, 1, false), (3, 1, false)], none, 24⟩),
  (9, ⟨false, .str, [.str ByteArray.empty], [], none, 16⟩),
  (10, ⟨false, .str, [.str ByteArray.empty], [], none, 16⟩),
  (11, ⟨false, .str, [.str ByteArray.empty], [], none, 16⟩),
  (12, ⟨false, .int .u64, [.int .u64 0], [], none, 8⟩),
  (13, ⟨true, .pair (.str) (.int .u64), [.str ByteArray.empty, .int .u64 0], [(0, 1, false), (1, 1, false)], none, 24⟩),
  (14, ⟨true, .pair (.str) (.int .u64), [.str ByteArray.empty, .int .u64 0], [(0, 1, false), (1, 1, false)], none, 24⟩),
  (21, ⟨false, .int .i32, [.int .i32 0], [], none, 4⟩),
  (22, ⟨false, .sl 3 (.int .i64), [.nil], [], some 3, 24⟩),
  (23, ⟨true, .pair (.int .i64) (.pair (.int .i64) (.sl 3 (.int .i64))), [.int .i64 0, .int .i64 0, .nil], [(0, 1, false), (1, 1, false), (2, 1, false)], none, 40⟩),
  (24, ⟨true, .pair (.int .i64) (.pair (.int .i64) (.sl 3 (.int .i64))), [.int .i64 0, .int .i64 0, .nil], [(0, 1, false), (1, 1, false), (2, 1, false)], none, 40⟩),
  (25, ⟨false, .sl 103 (.pair (.int .i64) (.sl 135 (.pair (.sl 3 (.int .i64)) (.int .i64)))), [.nil], [], some 103, 24⟩),
  (26, ⟨true, .pair (.pair (.int .i64) (.pair (.int .i64) (.sl 3 (.int .i64)))) (.sl 103 (.pair (.int .i64) (.sl 135 (.pair (.sl 3 (.int .i64)) (.int .i64))))), [.int .i64 0, .int .i64 0, .nil, .nil], [(0, 3, true), (3, 1, false)], none, 64⟩),
  (27, ⟨true, .pair (.pair (.int .i64) (.pair (.int .i64) (.sl 3 (.int .i64)))) (.sl 103 (.pair (.int .i64) (.sl 135 (.pair (.sl 3 (.int .i64)) (.int .i64))))), [.int .i64 0, .int .i64 0, .nil, .nil], [(0, 3, true), (3, 1, false)], none, 64⟩),
  (30, ⟨true, .pair (.int .i64) (.pair (.int .i64) (.sl 3 (.int .i64))), [.int .i64 0, .int .i64 0, .nil], [(0, 1, false), (1, 1, false), (2, 1, false)], none, 40⟩),
  (31, ⟨false, .sl 71 (.pair (.int .i64) (.sl 107 (.pair (.sl 3 (.int .i64)) (.int .i64)))), [.nil], [], some 71, 24⟩),
  (32, ⟨true, .pair (.pair (.int .i64) (.pair (.int .i64) (.sl 3 (.int .i64)))) (.sl 71 (.pair (.int .i64) (.sl 107 (.pair (.sl 3 (.int .i64)) (.int .i64))))), [.int .i64 0, .int .i64 0, .nil, .nil], [(0, 3, true), (3, 1, false)], none, 64⟩),
  (33, ⟨true, .pair (.pair (.int .i64) (.pair (.int .i64) (.sl 3 (.int .i64)))) (.sl 71 (.pair (.int .i64) (.sl 107 (.pair (.sl 3 (.int .i64)) (.int .i64))))), [.int .i64 0, .int .i64 0, .nil, .nil], [(0, 3, true), (3, 1, false)], none, 64⟩),
  (38, ⟨false, .sl 22 (.sl 3 (.int .i64)), [.nil], [], some 22, 24⟩),
  (47, ⟨false, .sl 5 (.int .u8), [.nil], [], some 5, 24⟩),
  (69, ⟨false, .sl 107 (.pair (.sl 3 (.int .i64)) (.int .i64)), [.nil], [], some 107, 24⟩),
  (70, ⟨true, .pair (.int .i64) (.sl 107 (.pair (.sl 3 (.int .i64)) (.int .i64))), [.int .i64 0, .nil], [(0, 1, false), (1, 1, false)], none, 32⟩),
  (71, ⟨true, .pair (.int .i64) (.sl 107 (.pair (.sl 3 (.int .i64)) (.int .i64))), [.int .i64 0, .nil], [(0, 1, false), (1, 1, false)], none, 32⟩),
  (77, ⟨true, .pair (.sl 22 (.sl 3 (.int .i64))) (.bool), [.nil, .bool false], [(0, 1, false), (1, 1, false)], none, 32⟩),
  (78, ⟨true, .pair (.sl 22 (.sl 3 (.int .i64))) (.bool), [.nil, .bool false], [(0, 1, false), (1, 1, false)], none, 32⟩),
  (88, ⟨false, .sl 30 (.pair (.int .i64) (.pair (.int .i64) (.sl 3 (.int .i64)))), [.nil], [], some 30, 24⟩),
  (96, ⟨false, .sl 4 (.bool), [.nil], [], some 4, 24⟩),
  (101, ⟨false, .sl 135 (.pair (.sl 3 (.int .i64)) (.int .i64)), [.nil], [], some 135, 24⟩),
  (102, ⟨true, .pair (.int .i64) (.sl 135 (.pair (.sl 3 (.int .i64)) (.int .i64))), [.int .i64 0, .nil], [(0, 1, false), (1, 1, false)], none, 32⟩),
  (103, ⟨true, .pair (.int .i64) (.sl 135 (.pair (.sl 3 (.int .i64)) (.int .i64))), [.int .i64 0, .nil], [(0, 1, false), (1, 1, false)], none, 32⟩),
  (106, ⟨true, .pair (.sl 3 (.int .i64)) (.int .i64), [.nil, .int .i64 0], [(0, 1, false), (1, 1, false)], none, 32⟩),
  (107, ⟨true, .pair (.sl 3 (.int .i64)) (.int .i64), [.nil, .int .i64 0], [(0, 1, false), (1, 1, false)], none, 32⟩),
  (112, ⟨true, .pair (.sl 5 (.int .u8)) (.pair (.int .i64) (.int .i64)), [.nil, .int .i64 0, .int .i64 0], [(0, 1, false), (1, 1, false), (2, 1, false)], none, 40⟩),
  (113, ⟨true, .pair (.sl 5 (.int .u8)) (.pair (.int .i64) (.int .i64)), [.nil, .int .i64 0, .int .i64 0], [(0, 1, false), (1, 1, false), (2, 1, false)], none, 40⟩),
  (131, ⟨false, .int .u64, [.int .u64 0], [], none, 8⟩),
  (135, ⟨true, .pair (.sl 3 (.int .i64)) (.int .i64), [.nil, .int .i64 0], [(0, 1, false), (1, 1, false)], none, 32⟩),
  (139, ⟨false, .sl 9 (.str), [.nil], [], some 9, 24⟩),
  (148, ⟨false, .int .u32, [.int .u32 0], [], none, 4⟩),
  (149, ⟨false, .int .u8, [.int .u8 0], [], none, 1⟩),
  (150, ⟨false, .int .u8, [.int .u8 0], [], none, 1⟩),
  (153, ⟨false, .int .i32, [.int .i32 0], [], none, 4⟩),
  (154, ⟨false, .int .i32, [.int .i32 0], [], none, 4⟩)]
theorem tabOk : TOk Try.prog tab := TOk.of (by kernel_rfl)
noncomputable instance : Inv Try.prog := Inv.triv _
end Go.Fw
namespace Go.Fw
variable {ρ : Type}
open Go.Proofs
noncomputable def f58sig : Sig := ⟨[⟨.sl 3 (.int .i64), false, false⟩, ⟨.int .i64, false, false⟩], [⟨.int .i64, false, false⟩]⟩
noncomputable def e58 : Entry := ⟨f58sig, none, fun X => ((), ((laws_szIntS.g X.1 X.2.1), ()))⟩
noncomputable def f58G : Gm := emptyG
theorem f58GOk : GOk Try.prog f58G := GOk.nil
noncomputable def f58lE : Clean := ⟨[], [], [], [], []⟩
noncomputable def f58s0 (v0 : LI) (v1 : Int) : St := initSt f58sig.ps (v0, (v1, ()))
noncomputable def f58s1 (v4 : Int) : St := stOf [(4, xi v4)] [] []
noncomputable def f58l1 : Clean := ⟨[4], [], [], [], []⟩
noncomputable def f58B : Nat → Option Clean := lookL [(1000000, f58l1)]
noncomputable abbrev f58i {ρ : Type} (N : Nat) (c : Code) (p : Plan) (σ : St) (K : KT ρ) : Option ρ := iCode f58G tab f58B N c p σ K
noncomputable def f58c (n : Nat) : Code := codeN 99 (bodyOf Try.f58) n
theorem f58t0 N v0 v1 (K : KT ρ) : f58i N (f58c 1) .n (f58s0 v0 v1) (joinK (some f58lE) K) =
  laws_szIntS.Z0 N v0 v1 (fun v4 => K .ret (f58s1 v4)) := by kernel_rfl
theorem f58m (N : Nat) (v0 : LI) (v1 : Int) : f58i N (f58c 1) .n (f58s0 v0 v1) (joinK (some f58lE) (finK tab f58sig Try.f58.results.toList)) = laws_szIntS.Z0 N v0 v1 (fun v4 => some ((), (v4, ()))) :=
  (f58t0 N v0 v1 (finK tab f58sig Try.f58.results.toList)).trans (by kernel_rfl)
theorem f58ok (h : laws_szIntS.Spec) : EntryOk Try.prog 58 e58 :=
  entry_of_code (sig := f58sig) (c := (f58c 1)) (pl := .n) (je := (some f58lE)) (B := f58B) Try.func58 (by kernel_rfl) (by kernel_rfl) (by kernel_rfl) tabOk f58GOk (by kernel_rfl) (by kernel_rfl) (by kernel_rfl) (by kernel_rfl) fun X hb hp => by
    obtain ⟨v0, v1, _⟩ := X
    obtain ⟨N, h⟩ := h v0 v1 hb.1
    exact ⟨N, (f58m N v0 v1).trans (h N (Nat.le_refl N))⟩
theorem e58ok : EntryOk Try.prog 58 e58 := f58ok laws_szIntS.ok
end Go.Fw
namespace Go.Fw
variable {ρ : Type}
open Go.Proofs
noncomputable def f16sig : Sig := ⟨[⟨.pair (.int .i64) (.pair (.int .i64) (.sl 3 (.int .i64))), true, false⟩, ⟨.int .i64, false, false⟩], [⟨.int .i64, false, false⟩]⟩
noncomputable def e16 : Entry := ⟨f16sig, none, fun X => ((), ((laws_szMatrix.g X.1 X.2.1), ()))⟩
noncomputable def f16G : Gm := addG emptyG 58 e58
theorem f16GOk : GOk Try.prog f16G := (GOk.nil).add e58ok (by kernel_rfl)
noncomputable def f16lE : Clean := ⟨[], [], [], [], []⟩
noncomputable def f16s0 (v0 : MT) (v1 : Int) : St := initSt f16sig.ps (v0, (v1, ()))
noncomputable def f16s1 (v4 : Int) : St := stOf [(4, xi v4)] [] []
noncomputable def f16l1 : Clean := ⟨[4], [], [], [], []⟩
noncomputable def f16B : Nat → Option Clean := lookL [(1000000, f16l1)]
noncomputable abbrev f16i {ρ : Type} (N : Nat) (c : Code) (p : Plan) (σ : St) (K : KT ρ) : Option ρ := iCode f16G tab f16B N c p σ K
noncomputable def f16c (n : Nat) : Code := codeN 99 (bodyOf Try.f16) n
theorem f16t0 N v0 v1 (K : KT ρ) : f16i N (f16c 1) .n (f16s0 v0 v1) (joinK (some f16lE) K) =
  laws_szMatrix.Z0 N v0 v1 (fun v4 => K .ret (f16s1 v4)) := by kernel_rfl
theorem f16m (N : Nat) (v0 : MT) (v1 : Int) : f16i N (f16c 1) .n (f16s0 v0 v1) (joinK (some f16lE) (finK tab f16sig Try.f16.results.toList)) = laws_szMatrix.Z0 N v0 v1 (fun v4 => some ((), (v4, ()))) :=
  (f16t0 N v0 v1 (finK tab f16sig Try.f16.results.toList)).trans (by kernel_rfl)
theorem f16ok (h : laws_szMatrix.Spec) : EntryOk Try.prog 16 e16 :=
  entry_of_code (sig := f16sig) (c := (f16c 1)) (pl := .n) (je := (some f16lE)) (B := f16B) Try.func16 (by kernel_rfl) (by kernel_rfl) (by kernel_rfl) tabOk f16GOk (by kernel_rfl) (by kernel_rfl) (by kernel_rfl) (by kernel_rfl) fun X hb hp => by
    obtain ⟨v0, v1, _⟩ := X
    obtain ⟨N, h⟩ := h v0 v1 hb.1
    exact ⟨N, (f16m N v0 v1).trans (h N (Nat.le_refl N))⟩
theorem e16ok : EntryOk Try.prog 16 e16 := f16ok laws_szMatrix.ok
end Go.Fw
namespace Go.Fw
variable {ρ : Type}
open Go.Proofs
noncomputable def f35sig : Sig := ⟨[⟨.sl 3 (.int .i64), false, false⟩], [⟨.sl 3 (.int .i64), false, false⟩]⟩
noncomputable def e35 : Entry := ⟨f35sig, (some fun X => laws_toIntS.P X.1), fun X => ((), ((laws_toIntS.g X.1), ()))⟩
noncomputable def f35G : Gm := emptyG
theorem f35GOk : GOk Try.prog f35G := GOk.nil
noncomputable def f35lE : Clean := ⟨[], [], [], [], []⟩
noncomputable def f35s0 (v0 : LI) : St := initSt f35sig.ps (v0, ())
noncomputable def f35s1 (v0 : LI) : St := stOf [(0, .c (.sn 3 tI v0 none))] [] []
noncomputable def f35l1 : Clean := ⟨[0], [], [], [], []⟩
noncomputable def f35s2 (v3 v0 : LI) : St := stOf [(0, .c (.sn 3 tI v0 none)), (3, xo 1000192)] [] [(1000192, (⟨3, .int .i64, v3, true, false⟩ : Row))]
noncomputable def f35l2 : Clean := ⟨[0, 3], [], [], [], [(⟨false, 3, 0⟩, 1000192)]⟩
noncomputable def f35s3 (v3 v0 : LI) (v4 : Int) : St := stOf [(0, .c (.sn 3 tI v0 none)), (3, xo 1000192), (4, xi v4)] [] [(1000192, (⟨3, .int .i64, v3, true, false⟩ : Row))]
noncomputable def f35l3 : Clean := ⟨[0, 3, 4], [], [], [], [(⟨false, 3, 0⟩, 1000192)]⟩
noncomputable def f35s4 (v3 : LI) : St := stOf [(3, xo 1000192)] [] [(1000192, (⟨3, .int .i64, v3, true, false⟩ : Row))]
noncomputable def f35l4 : Clean := ⟨[3], [], [], [], [(⟨false, 3, 0⟩, 1000192)]⟩
noncomputable def f35s5 (v2 : LI) : St := stOf [(2, xo 1000128)] [] [(1000128, (⟨3, .int .i64, v2, true, false⟩ : Row))]
noncomputable def f35l5 : Clean := ⟨[2], [], [], [], [(⟨false, 2, 0⟩, 1000128)]⟩
noncomputable def f35B : Nat → Option Clean := lookL [(0, f35l4), (1000000, f35l5)]
noncomputable abbrev f35i {ρ : Type} (N : Nat) (c : Code) (p : Plan) (σ : St) (K : KT ρ) : Option ρ := iCode f35G tab f35B N c p σ K
noncomputable def f35c (n : Nat) : Code := codeN 99 (bodyOf Try.f35) n
theorem f35t1 N v0 (K : KT ρ) : f35i N (f35c 2) .n (f35s0 v0) (joinK (some f35l1) K) =
  laws_toIntS.Z1 N v0 (fun v0 => K .nrm (f35s1 v0)) := by kernel_rfl
theorem f35t3 N v0 (K : KT ρ) : f35i N (f35c 5) .n (f35s1 v0) (joinK (some f35l2) K) =
  laws_toIntS.Z3 N v0 (fun v3 v0 => K .nrm (f35s2 v3 v0)) := by kernel_rfl
theorem f35t6 N v3 v0 (K : KT ρ) : f35i N (f35c 19) .n (f35s2 v3 v0) (joinK (some f35l3) K) =
  laws_toIntS.Z6 N v3 v0 (fun v3 v0 v4 => K .nrm (f35s3 v3 v0 v4)) := by kernel_rfl
theorem f35t9 N v3 v0 v4 (K : KT ρ) : f35i N (f35c 75) .n (f35s3 v3 v0 v4) (joinK (some f35l3) K) =
  laws_toIntS.Z9 N v3 v0 v4 (fun v3 v0 v4 => K .nrm (f35s3 v3 v0 v4)) (fun v3 => K (.exit 0) (f35s4 v3)) := by kernel_rfl
noncomputable def f35p8 : Plan := .mk none (some f35l3) .n .n
noncomputable abbrev f35w8 {ρ : Type} (N M : Nat) (σ : St) (K : KT ρ) : Option ρ := loopC (fun σ K => f35i N (f35c 75) .n σ K) f35l3 M σ K
theorem f35t8L {ρ : Type} (N : Nat) (K : KT ρ) : ∀ (M : Nat) (v3 v0 : LI) (v4 : Int), f35w8 N M (f35s3 v3 v0 v4) K =
  laws_toIntS.Z8L N (fun v3 => K (.exit 0) (f35s4 v3)) M v3 v0 v4
  | 0, _, _, _ => rfl
  | M + 1, v3, v0, v4 => viaRoundS (fun k => laws_toIntS.Z9 N v3 v0 v4 k (fun v3 => K (.exit 0) (f35s4 v3))) (f35t9 N (K := seqK (fun σ => f35w8 N M σ K) K) ..) (fx3 fun v3 v0 v4 => f35t8L N K M v3 v0 v4) (by kernel_rfl)
theorem f35t8 N v3 v0 v4 (K : KT ρ) : f35i N (f35c 43) f35p8 (f35s3 v3 v0 v4) (joinK (some f35l4) K) =
  laws_toIntS.Z8 N v3 v0 v4 (fun v3 => K (.exit 0) (f35s4 v3)) :=
 viaLoopS (by kernel_rfl) (f35t8L N (joinK (some f35l4) K) N v3 v0 v4) (by kernel_rfl)
noncomputable def f35p7 : Plan := .mk (some f35l4) none f35p8 .n
theorem f35t7 N v3 v0 v4 (K : KT ρ) : f35i N (f35c 27) f35p7 (f35s3 v3 v0 v4) (joinK (some f35l4) K) =
  laws_toIntS.Z7 N v3 v0 v4 (fun v3 => K .nrm (f35s4 v3)) :=
 viaBlockS (by kernel_rfl) (f35t8 N (K := blockK 0 (joinK (some f35l4) K)) ..) (by kernel_rfl)
noncomputable def f35p5 : Plan := .mk (some f35l3) none .n f35p7
theorem f35t5 N v3 v0 (K : KT ρ) : f35i N (f35c 11) f35p5 (f35s2 v3 v0) (joinK (some f35l4) K) =
  laws_toIntS.Z5 N v3 v0 (fun v3 => K .nrm (f35s4 v3)) :=
 viaSeqS (fun k => laws_toIntS.Z6 N v3 v0 k) (by kernel_rfl) (f35t6 N (K := seqK (fun σ => f35i N (f35c 27) f35p7 σ (joinK (some f35l4) K)) (joinK (some f35l4) K)) ..) (fx3 fun v3 v0 v4 => f35t7 N v3 v0 v4 K) (by kernel_rfl)
theorem f35t10 N v3 (K : KT ρ) : f35i N (f35c 15) .n (f35s4 v3) (joinK (some f35lE) K) =
  laws_toIntS.Z10 N v3 (fun v2 => K .ret (f35s5 v2)) := by kernel_rfl
noncomputable def f35p4 : Plan := .mk (some f35l4) none f35p5 .n
theorem f35t4 N v3 v0 (K : KT ρ) : f35i N (f35c 7) f35p4 (f35s2 v3 v0) (joinK (some f35lE) K) =
  laws_toIntS.Z4 N v3 v0 (fun v2 => K .ret (f35s5 v2)) :=
 viaSeqS (fun k => laws_toIntS.Z5 N v3 v0 k) (by kernel_rfl) (f35t5 N (K := seqK (fun σ => f35i N (f35c 15) .n σ (joinK (some f35lE) K)) (joinK (some f35lE) K)) ..) (funext fun v3 => f35t10 N v3 K) (by kernel_rfl)
noncomputable def f35p2 : Plan := .mk (some f35l2) none .n f35p4
theorem f35t2 N v0 (K : KT ρ) : f35i N (f35c 3) f35p2 (f35s1 v0) (joinK (some f35lE) K) =
  laws_toIntS.Z2 N v0 (fun v2 => K .ret (f35s5 v2)) :=
 viaSeqS (fun k => laws_toIntS.Z3 N v0 k) (by kernel_rfl) (f35t3 N (K := seqK (fun σ => f35i N (f35c 7) f35p4 σ (joinK (some f35lE) K)) (joinK (some f35lE) K)) ..) (fx2 fun v3 v0 => f35t4 N v3 v0 K) (by kernel_rfl)
noncomputable def f35p0 : Plan := .mk (some f35l1) none .n f35p2
theorem f35t0 N v0 (K : KT ρ) : f35i N (f35c 1) f35p0 (f35s0 v0) (joinK (some f35lE) K) =
  laws_toIntS.Z0 N v0 (fun v2 => K .ret (f35s5 v2)) :=
 viaSeqS (fun k => laws_toIntS.Z1 N v0 k) (by kernel_rfl) (f35t1 N (K := seqK (fun σ => f35i N (f35c 3) f35p2 σ (joinK (some f35lE) K)) (joinK (some f35lE) K)) ..) (funext fun v0 => f35t2 N v0 K) (by kernel_rfl)
theorem f35m (N : Nat) (v0 : LI) : f35i N (f35c 1) f35p0 (f35s0 v0) (joinK (some f35lE) (finK tab f35sig Try.f35.results.toList)) = laws_toIntS.Z0 N v0 (fun v2 => some ((), (v2, ()))) :=
  (f35t0 N v0 (finK tab f35sig Try.f35.results.toList)).trans (by kernel_rfl)
theorem f35ok (h : laws_toIntS.Spec) : EntryOk Try.prog 35 e35 :=
  entry_of_code (sig := f35sig) (c := (f35c 1)) (pl := f35p0) (je := (some f35lE)) (B := f35B) Try.func35 (by kernel_rfl) (by kernel_rfl) (by kernel_rfl) tabOk f35GOk (by kernel_rfl) (by kernel_rfl) (by kernel_rfl) (by kernel_rfl) fun X hb hp => by
    obtain ⟨v0, _⟩ := X
    obtain ⟨N, h⟩ := h v0 hb.1 hp
    exact ⟨N, (f35m N v0).trans (h N (Nat.le_refl N))⟩
theorem e35ok : EntryOk Try.prog 35 e35 := f35ok laws_toIntS.ok
end Go.Fw
namespace Go.Fw
variable {ρ : Type}
open Go.Proofs
noncomputable def f18sig : Sig := ⟨[⟨.pair (.int .i64) (.pair (.int .i64) (.sl 3 (.int .i64))), true, false⟩], [⟨.pair (.int .i64) (.pair (.int .i64) (.sl 3 (.int .i64))), true, false⟩]⟩
noncomputable def e18 : Entry := ⟨f18sig, (some fun X => laws_toMatrix.P X.1), fun X => ((), ((laws_toMatrix.g X.1), ()))⟩
noncomputable def f18G : Gm := addG emptyG 35 e35
theorem f18GOk : GOk Try.prog f18G := (GOk.nil).add e35ok (by kernel_rfl)
noncomputable def f18lE : Clean := ⟨[], [], [], [], []⟩
noncomputable def f18s0 (v0 : MT) : St := initSt f18sig.ps (v0, ())
noncomputable def f18s1 (v2_2 : LI) (v2_0 v2_1 : Int) : St := stOf [(2, xb 2)] [(2, (30, [yi v2_0, yi v2_1, .own 20000130]))] [(20000130, (⟨3, .int .i64, v2_2, true, false⟩ : Row))]
noncomputable def f18l1 : Clean := ⟨[2], [2], [], [], [(⟨true, 2, 2⟩, 20000130)]⟩
noncomputable def f18B : Nat → Option Clean := lookL [(1000000, f18l1)]
noncomputable abbrev f18i {ρ : Type} (N : Nat) (c : Code) (p : Plan) (σ : St) (K : KT ρ) : Option ρ := iCode f18G tab f18B N c p σ K
noncomputable def f18c (n : Nat) : Code := codeN 99 (bodyOf Try.f18) n
theorem f18t0 N v0 (K : KT ρ) : f18i N (f18c 1) .n (f18s0 v0) (joinK (some f18lE) K) =
  laws_toMatrix.Z0 N v0 (fun v2_2 v2_0 v2_1 => K .ret (f18s1 v2_2 v2_0 v2_1)) := by kernel_rfl
theorem f18m (N : Nat) (v0 : MT) : f18i N (f18c 1) .n (f18s0 v0) (joinK (some f18lE) (finK tab f18sig Try.f18.results.toList)) = laws_toMatrix.Z0 N v0 (fun v2_2 v2_0 v2_1 => some ((), ((v2_0, (v2_1, v2_2)), ()))) :=
  (f18t0 N v0 (finK tab f18sig Try.f18.results.toList)).trans (by kernel_rfl)
theorem f18ok (h : laws_toMatrix.Spec) : EntryOk Try.prog 18 e18 :=
  entry_of_code (sig := f18sig) (c := (f18c 1)) (pl := .n) (je := (some f18lE)) (B := f18B) Try.func18 (by kernel_rfl) (by kernel_rfl) (by kernel_rfl) tabOk f18GOk (by kernel_rfl) (by kernel_rfl) (by kernel_rfl) (by kernel_rfl) fun X hb hp => by
    obtain ⟨v0, _⟩ := X
    obtain ⟨N, h⟩ := h v0 hb.1 hp
    exact ⟨N, (f18m N v0).trans (h N (Nat.le_refl N))⟩
theorem e18ok : EntryOk Try.prog 18 e18 := f18ok laws_toMatrix.ok
end Go.Fw
namespace Go.Fw
variable {ρ : Type}
open Go.Proofs
noncomputable def f72sig : Sig := ⟨[⟨.int .i64, false, false⟩, ⟨.int .i64, false, false⟩, ⟨.int .i64, false, false⟩], [⟨.bool, false, false⟩]⟩
noncomputable def e72 : Entry := ⟨f72sig, none, fun X => ((), ((spec_l1In.g X.1 X.2.1 X.2.2.1), ()))⟩
noncomputable def f72G : Gm := emptyG
theorem f72GOk : GOk Try.prog f72G := GOk.nil
noncomputable def f72lE : Clean := ⟨[], [], [], [], []⟩
noncomputable def f72s0 (v0 v1 v2 : Int) : St := initSt f72sig.ps (v0, (v1, (v2, ())))
noncomputable def f72s1 (v6 : Bool) : St := stOf [(6, xB v6)] [] []
noncomputable def f72l1 : Clean := ⟨[6], [], [], [], []⟩
noncomputable def f72B : Nat → Option Clean := lookL [(1000000, f72l1)]
noncomputable abbrev f72i {ρ : Type} (N : Nat) (c : Code) (p : Plan) (σ : St) (K : KT ρ) : Option ρ := iCode f72G tab f72B N c p σ K
noncomputable def f72c (n : Nat) : Code := codeN 99 (bodyOf Try.f72) n
theorem f72t0 N v0 v1 v2 (K : KT ρ) : f72i N (f72c 1) .n (f72s0 v0 v1 v2) (joinK (some f72lE) K) =
  spec_l1In.Z0 N v0 v1 v2 (fun v6 => K .ret (f72s1 v6)) := by kernel_rfl
theorem f72m (N : Nat) (v0 v1 v2 : Int) : f72i N (f72c 1) .n (f72s0 v0 v1 v2) (joinK (some f72lE) (finK tab f72sig Try.f72.results.toList)) = spec_l1In.Z0 N v0 v1 v2 (fun v6 => some ((), (v6, ()))) :=
  (f72t0 N v0 v1 v2 (finK tab f72sig Try.f72.results.toList)).trans (by kernel_rfl)
theorem f72ok (h : spec_l1In.Spec) : EntryOk Try.prog 72 e72 :=
  entry_of_code (sig := f72sig) (c := (f72c 1)) (pl := .n) (je := (some f72lE)) (B := f72B) Try.func72 (by kernel_rfl) (by kernel_rfl) (by kernel_rfl) tabOk f72GOk (by kernel_rfl) (by kernel_rfl) (by kernel_rfl) (by kernel_rfl) fun X hb hp => by
    obtain ⟨v0, v1, v2, _⟩ := X
    obtain ⟨N, h⟩ := h v0 v1 v2
    exact ⟨N, (f72m N v0 v1 v2).trans (h N (Nat.le_refl N))⟩
theorem e72ok : EntryOk Try.prog 72 e72 := f72ok spec_l1In.ok
end Go.Fw
namespace Go.Fw
variable {ρ : Type}
open Go.Proofs
noncomputable def f80sig : Sig := ⟨[⟨.pair (.int .i64) (.pair (.int .i64) (.sl 3 (.int .i64))), true, false⟩, ⟨.int .i64, false, false⟩, ⟨.int .i64, false, false⟩], [⟨.int .i64, false, false⟩]⟩
noncomputable def e80 : Entry := ⟨f80sig, (some fun X => spec_l1At.P X.1 X.2.1 X.2.2.1), fun X => ((), ((spec_l1At.g X.1 X.2.1 X.2.2.1), ()))⟩
noncomputable def f80G : Gm := emptyG
theorem f80GOk : GOk Try.prog f80G := GOk.nil
noncomputable def f80lE : Clean := ⟨[], [], [], [], []⟩
noncomputable def f80s0 (v0 : MT) (v1 v2 : Int) : St := initSt f80sig.ps (v0, (v1, (v2, ())))
noncomputable def f80s1 (v6 : Int) : St := stOf [(6, xi v6)] [] []
noncomputable def f80l1 : Clean := ⟨[6], [], [], [], []⟩
noncomputable def f80B : Nat → Option Clean := lookL [(1000000, f80l1)]
noncomputable abbrev f80i {ρ : Type} (N : Nat) (c : Code) (p : Plan) (σ : St) (K : KT ρ) : Option ρ := iCode f80G tab f80B N c p σ K
noncomputable def f80c (n : Nat) : Code := codeN 99 (bodyOf Try.f80) n
theorem f80t0 N v0 v1 v2 (K : KT ρ) : f80i N (f80c 1) .n (f80s0 v0 v1 v2) (joinK (some f80lE) K) =
  spec_l1At.Z0 N v0 v1 v2 (fun v6 => K .ret (f80s1 v6)) := by kernel_rfl
theorem f80m (N : Nat) (v0 : MT) (v1 v2 : Int) : f80i N (f80c 1) .n (f80s0 v0 v1 v2) (joinK (some f80lE) (finK tab f80sig Try.f80.results.toList)) = spec_l1At.Z0 N v0 v1 v2 (fun v6 => some ((), (v6, ()))) :=
  (f80t0 N v0 v1 v2 (finK tab f80sig Try.f80.results.toList)).trans (by kernel_rfl)
theorem f80ok (h : spec_l1At.Spec) : EntryOk Try.prog 80 e80 :=
  entry_of_code (sig := f80sig) (c := (f80c 1)) (pl := .n) (je := (some f80lE)) (B := f80B) Try.func80 (by kernel_rfl) (by kernel_rfl) (by kernel_rfl) tabOk f80GOk (by kernel_rfl) (by kernel_rfl) (by kernel_rfl) (by kernel_rfl) fun X hb hp => by
    obtain ⟨v0, v1, v2, _⟩ := X
    obtain ⟨N, h⟩ := h v0 v1 v2 hb.1 hp
    exact ⟨N, (f80m N v0 v1 v2).trans (h N (Nat.le_refl N))⟩
theorem e80ok : EntryOk Try.prog 80 e80 := f80ok spec_l1At.ok
end Go.Fw
namespace Go.Fw
variable {ρ : Type}
open Go.Proofs
noncomputable def f74sig : Sig := ⟨[⟨.pair (.int .i64) (.pair (.int .i64) (.sl 3 (.int .i64))), true, false⟩], [⟨.bool, false, false⟩]⟩
noncomputable def e74 : Entry := ⟨f74sig, none, fun X => ((), ((spec_l1Sizes.g X.1), ()))⟩
noncomputable def f74G : Gm := addG (addG emptyG 72 e72) 80 e80
theorem f74GOk : GOk Try.prog f74G := ((GOk.nil).add e72ok (by kernel_rfl)).add e80ok (by kernel_rfl)
noncomputable def f74lE : Clean := ⟨[], [], [], [], []⟩
noncomputable def f74s0 (v0 : MT) : St := initSt f74sig.ps (v0, ())
noncomputable def f74s1 (v1_0 v1_1 : Int) (v1_2 : LI) : St := stOf [(1, xb 1)] [(1, (30, [yi v1_0, yi v1_1, .sn 3 tI v1_2 none]))] []
noncomputable def f74l1 : Clean := ⟨[1], [1], [], [], []⟩
noncomputable def f74s2 (v3 v1_0 v1_1 : Int) (v1_2 : LI) : St := stOf [(1, xb 1), (3, xi v3)] [(1, (30, [yi v1_0, yi v1_1, .sn 3 tI v1_2 none]))] []
noncomputable def f74l2 : Clean := ⟨[1, 3], [1], [], [], []⟩
noncomputable def f74s3 (v4 v1_0 v1_1 : Int) (v1_2 : LI) : St := stOf [(1, xb 1), (4, xi v4)] [(1, (30, [yi v1_0, yi v1_1, .sn 3 tI v1_2 none]))] []
noncomputable def f74l3 : Clean := ⟨[1, 4], [1], [], [], []⟩
noncomputable def f74s4 (v4 v5 v1_0 v1_1 : Int) (v1_2 : LI) : St := stOf [(1, xb 1), (4, xi v4), (5, xi v5)] [(1, (30, [yi v1_0, yi v1_1, .sn 3 tI v1_2 none]))] []
noncomputable def f74l4 : Clean := ⟨[1, 4, 5], [1], [], [], []⟩
noncomputable def f74s5  : St := stOf [] [] []
noncomputable def f74l5 : Clean := ⟨[], [], [], [], []⟩
noncomputable def f74s6 (v2 : Bool) : St := stOf [(2, xB v2)] [] []
noncomputable def f74l6 : Clean := ⟨[2], [], [], [], []⟩
noncomputable def f74B : Nat → Option Clean := lookL [(0, f74l1), (4, f74l3), (3, f74l3), (2, f74l5), (1000000, f74l6)]
noncomputable abbrev f74i {ρ : Type} (N : Nat) (c : Code) (p : Plan) (σ : St) (K : KT ρ) : Option ρ := iCode f74G tab f74B N c p σ K
noncomputable def f74c (n : Nat) : Code := codeN 99 (bodyOf Try.f74) n
theorem f74t1 N v0 (K : KT ρ) : f74i N (f74c 2) .n (f74s0 v0) (joinK (some f74l1) K) =
  spec_l1Sizes.Z1 N v0 (fun v1_0 v1_1 v1_2 => K .nrm (f74s1 v1_0 v1_1 v1_2)) := by kernel_rfl
theorem f74t3 N v1_0 v1_1 v1_2 (K : KT ρ) : f74i N (f74c 5) .n (f74s1 v1_0 v1_1 v1_2) (joinK (some f74l1) K) =
  spec_l1Sizes.Z3 N v1_0 v1_1 v1_2 (fun v1_0 v1_1 v1_2 => K .nrm (f74s1 v1_0 v1_1 v1_2)) (fun v2 => K .ret (f74s6 v2)) := by kernel_rfl
theorem f74t6 N v1_0 v1_1 v1_2 (K : KT ρ) : f74i N (f74c 19) .n (f74s1 v1_0 v1_1 v1_2) (joinK (some f74l2) K) =
  spec_l1Sizes.Z6 N v1_0 v1_1 v1_2 (fun v3 v1_0 v1_1 v1_2 => K .nrm (f74s2 v3 v1_0 v1_1 v1_2)) := by kernel_rfl
theorem f74t9 N v3 v1_0 v1_1 v1_2 (K : KT ρ) : f74i N (f74c 75) .n (f74s2 v3 v1_0 v1_1 v1_2) (joinK (some f74l2) K) =
  spec_l1Sizes.Z9 N v3 v1_0 v1_1 v1_2 (fun v3 v1_0 v1_1 v1_2 => K .nrm (f74s2 v3 v1_0 v1_1 v1_2)) (fun v1_0 v1_1 v1_2 => K (.exit 0) (f74s1 v1_0 v1_1 v1_2)) (fun v2 => K .ret (f74s6 v2)) := by kernel_rfl
noncomputable def f74p8 : Plan := .mk none (some f74l2) .n .n
noncomputable abbrev f74w8 {ρ : Type} (N M : Nat) (σ : St) (K : KT ρ) : Option ρ := loopC (fun σ K => f74i N (f74c 75) .n σ K) f74l2 M σ K
theorem f74t8L {ρ : Type} (N : Nat) (K : KT ρ) : ∀ (M : Nat) (v3 v1_0 v1_1 : Int) (v1_2 : LI), f74w8 N M (f74s2 v3 v1_0 v1_1 v1_2) K =
  spec_l1Sizes.Z8L N (fun v1_0 v1_1 v1_2 => K (.exit 0) (f74s1 v1_0 v1_1 v1_2)) (fun v2 => K .ret (f74s6 v2)) M v3 v1_0 v1_1 v1_2
  | 0, _, _, _, _ => rfl
  | M + 1, v3, v1_0, v1_1, v1_2 => viaRoundS (fun k => spec_l1Sizes.Z9 N v3 v1_0 v1_1 v1_2 k (fun v1_0 v1_1 v1_2 => K (.exit 0) (f74s1 v1_0 v1_1 v1_2)) (fun v2 => K .ret (f74s6 v2))) (f74t9 N (K := seqK (fun σ => f74w8 N M σ K) K) ..) (fx4 fun v3 v1_0 v1_1 v1_2 => f74t8L N K M v3 v1_0 v1_1 v1_2) (by kernel_rfl)
theorem f74t8 N v3 v1_0 v1_1 v1_2 (K : KT ρ) : f74i N (f74c 43) f74p8 (f74s2 v3 v1_0 v1_1 v1_2) (joinK (some f74l1) K) =
  spec_l1Sizes.Z8 N v3 v1_0 v1_1 v1_2 (fun v1_0 v1_1 v1_2 => K (.exit 0) (f74s1 v1_0 v1_1 v1_2)) (fun v2 => K .ret (f74s6 v2)) :=
 viaLoopS (by kernel_rfl) (f74t8L N (joinK (some f74l1) K) N v3 v1_0 v1_1 v1_2) (by kernel_rfl)
noncomputable def f74p7 : Plan := .mk (some f74l1) none f74p8 .n
theorem f74t7 N v3 v1_0 v1_1 v1_2 (K : KT ρ) : f74i N (f74c 27) f74p7 (f74s2 v3 v1_0 v1_1 v1_2) (joinK (some f74l1) K) =
  spec_l1Sizes.Z7 N v3 v1_0 v1_1 v1_2 (fun v1_0 v1_1 v1_2 => K .nrm (f74s1 v1_0 v1_1 v1_2)) (fun v2 => K .ret (f74s6 v2)) :=
 viaBlockS (by kernel_rfl) (f74t8 N (K := blockK 0 (joinK (some f74l1) K)) ..) (by kernel_rfl)
noncomputable def f74p5 : Plan := .mk (some f74l2) none .n f74p7
theorem f74t5 N v1_0 v1_1 v1_2 (K : KT ρ) : f74i N (f74c 11) f74p5 (f74s1 v1_0 v1_1 v1_2) (joinK (some f74l1) K) =
  spec_l1Sizes.Z5 N v1_0 v1_1 v1_2 (fun v1_0 v1_1 v1_2 => K .nrm (f74s1 v1_0 v1_1 v1_2)) (fun v2 => K .ret (f74s6 v2)) :=
 viaSeqS (fun k => spec_l1Sizes.Z6 N v1_0 v1_1 v1_2 k) (by kernel_rfl) (f74t6 N (K := seqK (fun σ => f74i N (f74c 27) f74p7 σ (joinK (some f74l1) K)) (joinK (some f74l1) K)) ..) (fx4 fun v3 v1_0 v1_1 v1_2 => f74t7 N v3 v1_0 v1_1 v1_2 K) (by kernel_rfl)
theorem f74t12 N v1_0 v1_1 v1_2 (K : KT ρ) : f74i N (f74c 39) .n (f74s1 v1_0 v1_1 v1_2) (joinK (some f74l3) K) =
  spec_l1Sizes.Z12 N v1_0 v1_1 v1_2 (fun v4 v1_0 v1_1 v1_2 => K .nrm (f74s3 v4 v1_0 v1_1 v1_2)) := by kernel_rfl
theorem f74t16 N v4 v1_0 v1_1 v1_2 (K : KT ρ) : f74i N (f74c 279) .n (f74s3 v4 v1_0 v1_1 v1_2) (joinK (some f74l3) K) =
  spec_l1Sizes.Z16 N v4 v1_0 v1_1 v1_2 (fun v4 v1_0 v1_1 v1_2 => K .nrm (f74s3 v4 v1_0 v1_1 v1_2)) (K (.exit 2) f74s5) := by kernel_rfl
theorem f74t20 N v4 v1_0 v1_1 v1_2 (K : KT ρ) : f74i N (f74c 2199) .n (f74s3 v4 v1_0 v1_1 v1_2) (joinK (some f74l4) K) =
  spec_l1Sizes.Z20 N v4 v1_0 v1_1 v1_2 (fun v4 v5 v1_0 v1_1 v1_2 => K .nrm (f74s4 v4 v5 v1_0 v1_1 v1_2)) := by kernel_rfl
theorem f74t23 N v4 v5 v1_0 v1_1 v1_2 (K : KT ρ) : f74i N (f74c 9367) .n (f74s4 v4 v5 v1_0 v1_1 v1_2) (joinK (some f74l4) K) =
  spec_l1Sizes.Z23 N v4 v5 v1_0 v1_1 v1_2 (fun v4 v5 v1_0 v1_1 v1_2 => K .nrm (f74s4 v4 v5 v1_0 v1_1 v1_2)) (fun v4 v1_0 v1_1 v1_2 => K (.exit 4) (f74s3 v4 v1_0 v1_1 v1_2)) (fun v2 => K .ret (f74s6 v2)) := by kernel_rfl
noncomputable def f74p22 : Plan := .mk none (some f74l4) .n .n
noncomputable abbrev f74w22 {ρ : Type} (N M : Nat) (σ : St) (K : KT ρ) : Option ρ := loopC (fun σ K => f74i N (f74c 9367) .n σ K) f74l4 M σ K
theorem f74t22L {ρ : Type} (N : Nat) (K : KT ρ) : ∀ (M : Nat) (v4 v5 v1_0 v1_1 : Int) (v1_2 : LI), f74w22 N M (f74s4 v4 v5 v1_0 v1_1 v1_2) K =
  spec_l1Sizes.Z22L N (fun v4 v1_0 v1_1 v1_2 => K (.exit 4) (f74s3 v4 v1_0 v1_1 v1_2)) (fun v2 => K .ret (f74s6 v2)) M v4 v5 v1_0 v1_1 v1_2
  | 0, _, _, _, _, _ => rfl
  | M + 1, v4, v5, v1_0, v1_1, v1_2 => viaRoundS (fun k => spec_l1Sizes.Z23 N v4 v5 v1_0 v1_1 v1_2 k (fun v4 v1_0 v1_1 v1_2 => K (.exit 4) (f74s3 v4 v1_0 v1_1 v1_2)) (fun v2 => K .ret (f74s6 v2))) (f74t23 N (K := seqK (fun σ => f74w22 N M σ K) K) ..) (fx5 fun v4 v5 v1_0 v1_1 v1_2 => f74t22L N K M v4 v5 v1_0 v1_1 v1_2) (by kernel_rfl)
theorem f74t22 N v4 v5 v1_0 v1_1 v1_2 (K : KT ρ) : f74i N (f74c 5271) f74p22 (f74s4 v4 v5 v1_0 v1_1 v1_2) (joinK (some f74l3) K) =
  spec_l1Sizes.Z22 N v4 v5 v1_0 v1_1 v1_2 (fun v4 v1_0 v1_1 v1_2 => K (.exit 4) (f74s3 v4 v1_0 v1_1 v1_2)) (fun v2 => K .ret (f74s6 v2)) :=
 viaLoopS (by kernel_rfl) (f74t22L N (joinK (some f74l3) K) N v4 v5 v1_0 v1_1 v1_2) (by kernel_rfl)
noncomputable def f74p21 : Plan := .mk (some f74l3) none f74p22 .n
theorem f74t21 N v4 v5 v1_0 v1_1 v1_2 (K : KT ρ) : f74i N (f74c 3223) f74p21 (f74s4 v4 v5 v1_0 v1_1 v1_2) (joinK (some f74l3) K) =
  spec_l1Sizes.Z21 N v4 v5 v1_0 v1_1 v1_2 (fun v4 v1_0 v1_1 v1_2 => K .nrm (f74s3 v4 v1_0 v1_1 v1_2)) (fun v2 => K .ret (f74s6 v2)) :=
 viaBlockS (by kernel_rfl) (f74t22 N (K := blockK 4 (joinK (some f74l3) K)) ..) (by kernel_rfl)
noncomputable def f74p19 : Plan := .mk (some f74l4) none .n f74p21
theorem f74t19 N v4 v1_0 v1_1 v1_2 (K : KT ρ) : f74i N (f74c 1175) f74p19 (f74s3 v4 v1_0 v1_1 v1_2) (joinK (some f74l3) K) =
  spec_l1Sizes.Z19 N v4 v1_0 v1_1 v1_2 (fun v4 v1_0 v1_1 v1_2 => K .nrm (f74s3 v4 v1_0 v1_1 v1_2)) (fun v2 => K .ret (f74s6 v2)) :=
 viaSeqS (fun k => spec_l1Sizes.Z20 N v4 v1_0 v1_1 v1_2 k) (by kernel_rfl) (f74t20 N (K := seqK (fun σ => f74i N (f74c 3223) f74p21 σ (joinK (some f74l3) K)) (joinK (some f74l3) K)) ..) (fx5 fun v4 v5 v1_0 v1_1 v1_2 => f74t21 N v4 v5 v1_0 v1_1 v1_2 K) (by kernel_rfl)
noncomputable def f74p18 : Plan := .mk (some f74l3) none f74p19 .n
theorem f74t18 N v4 v1_0 v1_1 v1_2 (K : KT ρ) : f74i N (f74c 663) f74p18 (f74s3 v4 v1_0 v1_1 v1_2) (joinK (some f74l3) K) =
  spec_l1Sizes.Z18 N v4 v1_0 v1_1 v1_2 (fun v4 v1_0 v1_1 v1_2 => K .nrm (f74s3 v4 v1_0 v1_1 v1_2)) (fun v2 => K .ret (f74s6 v2)) :=
 viaBlockS (by kernel_rfl) (f74t19 N (K := blockK 3 (joinK (some f74l3) K)) ..) (by kernel_rfl)
theorem f74t24 N v4 v1_0 v1_1 v1_2 (K : KT ρ) : f74i N (f74c 919) .n (f74s3 v4 v1_0 v1_1 v1_2) (joinK (some f74l3) K) =
  spec_l1Sizes.Z24 N v4 v1_0 v1_1 v1_2 (fun v4 v1_0 v1_1 v1_2 => K .nrm (f74s3 v4 v1_0 v1_1 v1_2)) := by kernel_rfl
noncomputable def f74p17 : Plan := .mk (some f74l3) none f74p18 .n
theorem f74t17 N v4 v1_0 v1_1 v1_2 (K : KT ρ) : f74i N (f74c 407) f74p17 (f74s3 v4 v1_0 v1_1 v1_2) (joinK (some f74l3) K) =
  spec_l1Sizes.Z17 N v4 v1_0 v1_1 v1_2 (fun v4 v1_0 v1_1 v1_2 => K .nrm (f74s3 v4 v1_0 v1_1 v1_2)) (fun v2 => K .ret (f74s6 v2)) :=
 viaSeqS (fun k => spec_l1Sizes.Z18 N v4 v1_0 v1_1 v1_2 k (fun v2 => K .ret (f74s6 v2))) (by kernel_rfl) (f74t18 N (K := seqK (fun σ => f74i N (f74c 919) .n σ (joinK (some f74l3) K)) (joinK (some f74l3) K)) ..) (fx4 fun v4 v1_0 v1_1 v1_2 => f74t24 N v4 v1_0 v1_1 v1_2 K) (by kernel_rfl)
noncomputable def f74p15 : Plan := .mk (some f74l3) none .n f74p17
theorem f74t15 N v4 v1_0 v1_1 v1_2 (K : KT ρ) : f74i N (f74c 151) f74p15 (f74s3 v4 v1_0 v1_1 v1_2) (joinK (some f74l3) K) =
  spec_l1Sizes.Z15 N v4 v1_0 v1_1 v1_2 (fun v4 v1_0 v1_1 v1_2 => K .nrm (f74s3 v4 v1_0 v1_1 v1_2)) (K (.exit 2) f74s5) (fun v2 => K .ret (f74s6 v2)) :=
 viaSeqS (fun k => spec_l1Sizes.Z16 N v4 v1_0 v1_1 v1_2 k (K (.exit 2) f74s5)) (by kernel_rfl) (f74t16 N (K := seqK (fun σ => f74i N (f74c 407) f74p17 σ (joinK (some f74l3) K)) (joinK (some f74l3) K)) ..) (fx4 fun v4 v1_0 v1_1 v1_2 => f74t17 N v4 v1_0 v1_1 v1_2 K) (by kernel_rfl)
noncomputable def f74p14 : Plan := .mk none (some f74l3) f74p15 .n
noncomputable abbrev f74w14 {ρ : Type} (N M : Nat) (σ : St) (K : KT ρ) : Option ρ := loopC (fun σ K => f74i N (f74c 151) f74p15 σ K) f74l3 M σ K
theorem f74t14L {ρ : Type} (N : Nat) (K : KT ρ) : ∀ (M : Nat) (v4 v1_0 v1_1 : Int) (v1_2 : LI), f74w14 N M (f74s3 v4 v1_0 v1_1 v1_2) K =
  spec_l1Sizes.Z14L N (K (.exit 2) f74s5) (fun v2 => K .ret (f74s6 v2)) M v4 v1_0 v1_1 v1_2
  | 0, _, _, _, _ => rfl
  | M + 1, v4, v1_0, v1_1, v1_2 => viaRoundS (fun k => spec_l1Sizes.Z15 N v4 v1_0 v1_1 v1_2 k (K (.exit 2) f74s5) (fun v2 => K .ret (f74s6 v2))) (f74t15 N (K := seqK (fun σ => f74w14 N M σ K) K) ..) (fx4 fun v4 v1_0 v1_1 v1_2 => f74t14L N K M v4 v1_0 v1_1 v1_2) (by kernel_rfl)
theorem f74t14 N v4 v1_0 v1_1 v1_2 (K : KT ρ) : f74i N (f74c 87) f74p14 (f74s3 v4 v1_0 v1_1 v1_2) (joinK (some f74l5) K) =
  spec_l1Sizes.Z14 N v4 v1_0 v1_1 v1_2 (K (.exit 2) f74s5) (fun v2 => K .ret (f74s6 v2)) :=
 viaLoopS (by kernel_rfl) (f74t14L N (joinK (some f74l5) K) N v4 v1_0 v1_1 v1_2) (by kernel_rfl)
noncomputable def f74p13 : Plan := .mk (some f74l5) none f74p14 .n
theorem f74t13 N v4 v1_0 v1_1 v1_2 (K : KT ρ) : f74i N (f74c 55) f74p13 (f74s3 v4 v1_0 v1_1 v1_2) (joinK (some f74l5) K) =
  spec_l1Sizes.Z13 N v4 v1_0 v1_1 v1_2 (K .nrm f74s5) (fun v2 => K .ret (f74s6 v2)) :=
 viaBlockS (by kernel_rfl) (f74t14 N (K := blockK 2 (joinK (some f74l5) K)) ..) (by kernel_rfl)
noncomputable def f74p11 : Plan := .mk (some f74l3) none .n f74p13
theorem f74t11 N v1_0 v1_1 v1_2 (K : KT ρ) : f74i N (f74c 23) f74p11 (f74s1 v1_0 v1_1 v1_2) (joinK (some f74l5) K) =
  spec_l1Sizes.Z11 N v1_0 v1_1 v1_2 (K .nrm f74s5) (fun v2 => K .ret (f74s6 v2)) :=
 viaSeqS (fun k => spec_l1Sizes.Z12 N v1_0 v1_1 v1_2 k) (by kernel_rfl) (f74t12 N (K := seqK (fun σ => f74i N (f74c 55) f74p13 σ (joinK (some f74l5) K)) (joinK (some f74l5) K)) ..) (fx4 fun v4 v1_0 v1_1 v1_2 => f74t13 N v4 v1_0 v1_1 v1_2 K) (by kernel_rfl)
theorem f74t25 N  (K : KT ρ) : f74i N (f74c 31) .n f74s5 (joinK (some f74lE) K) =
  spec_l1Sizes.Z25 N (fun v2 => K .ret (f74s6 v2)) := by kernel_rfl
noncomputable def f74p10 : Plan := .mk (some f74l5) none f74p11 .n
theorem f74t10 N v1_0 v1_1 v1_2 (K : KT ρ) : f74i N (f74c 15) f74p10 (f74s1 v1_0 v1_1 v1_2) (joinK (some f74lE) K) =
  spec_l1Sizes.Z10 N v1_0 v1_1 v1_2 (fun v2 => K .ret (f74s6 v2)) :=
 viaSeqS (fun k => spec_l1Sizes.Z11 N v1_0 v1_1 v1_2 k (fun v2 => K .ret (f74s6 v2))) (by kernel_rfl) (f74t11 N (K := seqK (fun σ => f74i N (f74c 31) .n σ (joinK (some f74lE) K)) (joinK (some f74lE) K)) ..) (f74t25 N K) (by kernel_rfl)
noncomputable def f74p4 : Plan := .mk (some f74l1) none f74p5 f74p10
theorem f74t4 N v1_0 v1_1 v1_2 (K : KT ρ) : f74i N (f74c 7) f74p4 (f74s1 v1_0 v1_1 v1_2) (joinK (some f74lE) K) =
  spec_l1Sizes.Z4 N v1_0 v1_1 v1_2 (fun v2 => K .ret (f74s6 v2)) :=
 viaSeqS (fun k => spec_l1Sizes.Z5 N v1_0 v1_1 v1_2 k (fun v2 => K .ret (f74s6 v2))) (by kernel_rfl) (f74t5 N (K := seqK (fun σ => f74i N (f74c 15) f74p10 σ (joinK (some f74lE) K)) (joinK (some f74lE) K)) ..) (fx3 fun v1_0 v1_1 v1_2 => f74t10 N v1_0 v1_1 v1_2 K) (by kernel_rfl)
noncomputable def f74p2 : Plan := .mk (some f74l1) none .n f74p4
theorem f74t2 N v1_0 v1_1 v1_2 (K : KT ρ) : f74i N (f74c 3) f74p2 (f74s1 v1_0 v1_1 v1_2) (joinK (some f74lE) K) =
  spec_l1Sizes.Z2 N v1_0 v1_1 v1_2 (fun v2 => K .ret (f74s6 v2)) :=
 viaSeqS (fun k => spec_l1Sizes.Z3 N v1_0 v1_1 v1_2 k (fun v2 => K .ret (f74s6 v2))) (by kernel_rfl) (f74t3 N (K := seqK (fun σ => f74i N (f74c 7) f74p4 σ (joinK (some f74lE) K)) (joinK (some f74lE) K)) ..) (fx3 fun v1_0 v1_1 v1_2 => f74t4 N v1_0 v1_1 v1_2 K) (by kernel_rfl)
noncomputable def f74p0 : Plan := .mk (some f74l1) none .n f74p2
theorem f74t0 N v0 (K : KT ρ) : f74i N (f74c 1) f74p0 (f74s0 v0) (joinK (some f74lE) K) =
  spec_l1Sizes.Z0 N v0 (fun v2 => K .ret (f74s6 v2)) :=
 viaSeqS (fun k => spec_l1Sizes.Z1 N v0 k) (by kernel_rfl) (f74t1 N (K := seqK (fun σ => f74i N (f74c 3) f74p2 σ (joinK (some f74lE) K)) (joinK (some f74lE) K)) ..) (fx3 fun v1_0 v1_1 v1_2 => f74t2 N v1_0 v1_1 v1_2 K) (by kernel_rfl)
theorem f74m (N : Nat) (v0 : MT) : f74i N (f74c 1) f74p0 (f74s0 v0) (joinK (some f74lE) (finK tab f74sig Try.f74.results.toList)) = spec_l1Sizes.Z0 N v0 (fun v2 => some ((), (v2, ()))) :=
  (f74t0 N v0 (finK tab f74sig Try.f74.results.toList)).trans (by kernel_rfl)
theorem f74ok (h : spec_l1Sizes.Spec) : EntryOk Try.prog 74 e74 :=
  entry_of_code (sig := f74sig) (c := (f74c 1)) (pl := f74p0) (je := (some f74lE)) (B := f74B) Try.func74 (by kernel_rfl) (by kernel_rfl) (by kernel_rfl) tabOk f74GOk (by kernel_rfl) (by kernel_rfl) (by kernel_rfl) (by kernel_rfl) fun X hb hp => by
    obtain ⟨v0, _⟩ := X
    obtain ⟨N, h⟩ := h v0 hb.1
    exact ⟨N, (f74m N v0).trans (h N (Nat.le_refl N))⟩
theorem e74ok : EntryOk Try.prog 74 e74 := f74ok spec_l1Sizes.ok
end Go.Fw
namespace Go.Fw
variable {ρ : Type}
open Go.Proofs
noncomputable def f129sig : Sig := ⟨[⟨.sl 3 (.int .i64), false, false⟩, ⟨.int .i64, false, false⟩], [⟨.bool, false, false⟩]⟩
noncomputable def e129 : Entry := ⟨f129sig, none, fun X => ((), ((spec_l1Has.g X.1 X.2.1), ()))⟩
noncomputable def f129G : Gm := emptyG
theorem f129GOk : GOk Try.prog f129G := GOk.nil
noncomputable def f129lE : Clean := ⟨[], [], [], [], []⟩
noncomputable def f129s0 (v0 : LI) (v1 : Int) : St := initSt f129sig.ps (v0, (v1, ()))
noncomputable def f129s1 (v0 : LI) (v1 : Int) : St := stOf [(0, .c (.sn 3 tI v0 none)), (1, xi v1)] [] []
noncomputable def f129l1 : Clean := ⟨[0, 1], [], [], [], []⟩
noncomputable def f129s2 (v0 : LI) (v1 v5 : Int) : St := stOf [(0, .c (.sn 3 tI v0 none)), (1, xi v1), (5, xi v5)] [] []
noncomputable def f129l2 : Clean := ⟨[0, 1, 5], [], [], [], []⟩
noncomputable def f129s3  : St := stOf [] [] []
noncomputable def f129l3 : Clean := ⟨[], [], [], [], []⟩
noncomputable def f129s4 (v4 : Bool) : St := stOf [(4, xB v4)] [] []
noncomputable def f129l4 : Clean := ⟨[4], [], [], [], []⟩
noncomputable def f129B : Nat → Option Clean := lookL [(0, f129l3), (1000000, f129l4)]
noncomputable abbrev f129i {ρ : Type} (N : Nat) (c : Code) (p : Plan) (σ : St) (K : KT ρ) : Option ρ := iCode f129G tab f129B N c p σ K
noncomputable def f129c (n : Nat) : Code := codeN 99 (bodyOf Try.f129) n
theorem f129t1 N v0 v1 (K : KT ρ) : f129i N (f129c 2) .n (f129s0 v0 v1) (joinK (some f129l1) K) =
  spec_l1Has.Z1 N v0 v1 (fun v0 v1 => K .nrm (f129s1 v0 v1)) := by kernel_rfl
theorem f129t4 N v0 v1 (K : KT ρ) : f129i N (f129c 9) .n (f129s1 v0 v1) (joinK (some f129l2) K) =
  spec_l1Has.Z4 N v0 v1 (fun v0 v1 v5 => K .nrm (f129s2 v0 v1 v5)) := by kernel_rfl
theorem f129t7 N v0 v1 v5 (K : KT ρ) : f129i N (f129c 37) .n (f129s2 v0 v1 v5) (joinK (some f129l2) K) =
  spec_l1Has.Z7 N v0 v1 v5 (fun v0 v1 v5 => K .nrm (f129s2 v0 v1 v5)) (K (.exit 0) f129s3) (fun v4 => K .ret (f129s4 v4)) := by kernel_rfl
noncomputable def f129p6 : Plan := .mk none (some f129l2) .n .n
noncomputable abbrev f129w6 {ρ : Type} (N M : Nat) (σ : St) (K : KT ρ) : Option ρ := loopC (fun σ K => f129i N (f129c 37) .n σ K) f129l2 M σ K
theorem f129t6L {ρ : Type} (N : Nat) (K : KT ρ) : ∀ (M : Nat) (v0 : LI) (v1 v5 : Int), f129w6 N M (f129s2 v0 v1 v5) K =
  spec_l1Has.Z6L N (K (.exit 0) f129s3) (fun v4 => K .ret (f129s4 v4)) M v0 v1 v5
  | 0, _, _, _ => rfl
  | M + 1, v0, v1, v5 => viaRoundS (fun k => spec_l1Has.Z7 N v0 v1 v5 k (K (.exit 0) f129s3) (fun v4 => K .ret (f129s4 v4))) (f129t7 N (K := seqK (fun σ => f129w6 N M σ K) K) ..) (fx3 fun v0 v1 v5 => f129t6L N K M v0 v1 v5) (by kernel_rfl)
theorem f129t6 N v0 v1 v5 (K : KT ρ) : f129i N (f129c 21) f129p6 (f129s2 v0 v1 v5) (joinK (some f129l3) K) =
  spec_l1Has.Z6 N v0 v1 v5 (K (.exit 0) f129s3) (fun v4 => K .ret (f129s4 v4)) :=
 viaLoopS (by kernel_rfl) (f129t6L N (joinK (some f129l3) K) N v0 v1 v5) (by kernel_rfl)
noncomputable def f129p5 : Plan := .mk (some f129l3) none f129p6 .n
theorem f129t5 N v0 v1 v5 (K : KT ρ) : f129i N (f129c 13) f129p5 (f129s2 v0 v1 v5) (joinK (some f129l3) K) =
  spec_l1Has.Z5 N v0 v1 v5 (K .nrm f129s3) (fun v4 => K .ret (f129s4 v4)) :=
 viaBlockS (by kernel_rfl) (f129t6 N (K := blockK 0 (joinK (some f129l3) K)) ..) (by kernel_rfl)
noncomputable def f129p3 : Plan := .mk (some f129l2) none .n f129p5
theorem f129t3 N v0 v1 (K : KT ρ) : f129i N (f129c 5) f129p3 (f129s1 v0 v1) (joinK (some f129l3) K) =
  spec_l1Has.Z3 N v0 v1 (K .nrm f129s3) (fun v4 => K .ret (f129s4 v4)) :=
 viaSeqS (fun k => spec_l1Has.Z4 N v0 v1 k) (by kernel_rfl) (f129t4 N (K := seqK (fun σ => f129i N (f129c 13) f129p5 σ (joinK (some f129l3) K)) (joinK (some f129l3) K)) ..) (fx3 fun v0 v1 v5 => f129t5 N v0 v1 v5 K) (by kernel_rfl)
theorem f129t8 N  (K : KT ρ) : f129i N (f129c 7) .n f129s3 (joinK (some f129lE) K) =
  spec_l1Has.Z8 N (fun v4 => K .ret (f129s4 v4)) := by kernel_rfl
noncomputable def f129p2 : Plan := .mk (some f129l3) none f129p3 .n
theorem f129t2 N v0 v1 (K : KT ρ) : f129i N (f129c 3) f129p2 (f129s1 v0 v1) (joinK (some f129lE) K) =
  spec_l1Has.Z2 N v0 v1 (fun v4 => K .ret (f129s4 v4)) :=
 viaSeqS (fun k => spec_l1Has.Z3 N v0 v1 k (fun v4 => K .ret (f129s4 v4))) (by kernel_rfl) (f129t3 N (K := seqK (fun σ => f129i N (f129c 7) .n σ (joinK (some f129lE) K)) (joinK (some f129lE) K)) ..) (f129t8 N K) (by kernel_rfl)
noncomputable def f129p0 : Plan := .mk (some f129l1) none .n f129p2
theorem f129t0 N v0 v1 (K : KT ρ) : f129i N (f129c 1) f129p0 (f129s0 v0 v1) (joinK (some f129lE) K) =
  spec_l1Has.Z0 N v0 v1 (fun v4 => K .ret (f129s4 v4)) :=
 viaSeqS (fun k => spec_l1Has.Z1 N v0 v1 k) (by kernel_rfl) (f129t1 N (K := seqK (fun σ => f129i N (f129c 3) f129p2 σ (joinK (some f129lE) K)) (joinK (some f129lE) K)) ..) (fx2 fun v0 v1 => f129t2 N v0 v1 K) (by kernel_rfl)
theorem f129m (N : Nat) (v0 : LI) (v1 : Int) : f129i N (f129c 1) f129p0 (f129s0 v0 v1) (joinK (some f129lE) (finK tab f129sig Try.f129.results.toList)) = spec_l1Has.Z0 N v0 v1 (fun v4 => some ((), (v4, ()))) :=
  (f129t0 N v0 v1 (finK tab f129sig Try.f129.results.toList)).trans (by kernel_rfl)
theorem f129ok (h : spec_l1Has.Spec) : EntryOk Try.prog 129 e129 :=
  entry_of_code (sig := f129sig) (c := (f129c 1)) (pl := f129p0) (je := (some f129lE)) (B := f129B) Try.func129 (by kernel_rfl) (by kernel_rfl) (by kernel_rfl) tabOk f129GOk (by kernel_rfl) (by kernel_rfl) (by kernel_rfl) (by kernel_rfl) fun X hb hp => by
    obtain ⟨v0, v1, _⟩ := X
    obtain ⟨N, h⟩ := h v0 v1 hb.1
    exact ⟨N, (f129m N v0 v1).trans (h N (Nat.le_refl N))⟩
theorem e129ok : EntryOk Try.prog 129 e129 := f129ok spec_l1Has.ok
end Go.Fw
namespace Go.Fw
variable {ρ : Type}
open Go.Proofs
noncomputable def f118sig : Sig := ⟨[⟨.pair (.int .i64) (.pair (.int .i64) (.sl 3 (.int .i64))), true, false⟩, ⟨.int .i64, false, false⟩], [⟨.sl 3 (.int .i64), false, false⟩, ⟨.sl 3 (.int .i64), false, false⟩]⟩
noncomputable def e118 : Entry := ⟨f118sig, (some fun X => spec_l1Piece.P X.1 X.2.1), fun X => ((), ((spec_l1Piece.g X.1 X.2.1).1, ((spec_l1Piece.g X.1 X.2.1).2, ())))⟩
noncomputable def f118G : Gm := addG (addG emptyG 80 e80) 129 e129
theorem f118GOk : GOk Try.prog f118G := ((GOk.nil).add e80ok (by kernel_rfl)).add e129ok (by kernel_rfl)
noncomputable def f118lE : Clean := ⟨[], [], [], [], []⟩
noncomputable def f118s0 (v0 : MT) (v1 : Int) : St := initSt f118sig.ps (v0, (v1, ()))
noncomputable def f118s1 (v1 v2_0 v2_1 : Int) (v2_2 : LI) : St := stOf [(1, xi v1), (2, xb 2)] [(2, (30, [yi v2_0, yi v2_1, .sn 3 tI v2_2 none]))] []
noncomputable def f118l1 : Clean := ⟨[1, 2], [2], [], [], []⟩
noncomputable def f118s2 (v6 : LI) (v1 v2_0 v2_1 : Int) (v2_2 : LI) : St := stOf [(1, xi v1), (2, xb 2), (6, xo 1000384)] [(2, (30, [yi v2_0, yi v2_1, .sn 3 tI v2_2 none]))] [(1000384, (⟨3, .int .i64, v6, true, false⟩ : Row))]
noncomputable def f118l2 : Clean := ⟨[1, 2, 6], [2], [], [], [(⟨false, 6, 0⟩, 1000384)]⟩
noncomputable def f118s3 (v6 v7 : LI) (v2_0 v2_1 : Int) (v2_2 : LI) : St := stOf [(2, xb 2), (6, xo 1000384), (7, xo 1000448)] [(2, (30, [yi v2_0, yi v2_1, .sn 3 tI v2_2 none]))] [(1000384, (⟨3, .int .i64, v6, true, false⟩ : Row)), (1000448, (⟨3, .int .i64, v7, true, false⟩ : Row))]
noncomputable def f118l3 : Clean := ⟨[2, 6, 7], [2], [], [], [(⟨false, 6, 0⟩, 1000384), (⟨false, 7, 0⟩, 1000448)]⟩
noncomputable def f118s4 (v6 v7 : LI) (v8 v2_0 v2_1 : Int) (v2_2 : LI) : St := stOf [(2, xb 2), (6, xo 1000384), (7, xo 1000448), (8, xi v8)] [(2, (30, [yi v2_0, yi v2_1, .sn 3 tI v2_2 none]))] [(1000384, (⟨3, .int .i64, v6, true, false⟩ : Row)), (1000448, (⟨3, .int .i64, v7, true, false⟩ : Row))]
noncomputable def f118l4 : Clean := ⟨[2, 6, 7, 8], [2], [], [], [(⟨false, 6, 0⟩, 1000384), (⟨false, 7, 0⟩, 1000448)]⟩
noncomputable def f118s5 (v6 v7 : LI) (v8 v9 v2_0 v2_1 : Int) (v2_2 : LI) : St := stOf [(2, xb 2), (6, xo 1000384), (7, xo 1000448), (8, xi v8), (9, xi v9)] [(2, (30, [yi v2_0, yi v2_1, .sn 3 tI v2_2 none]))] [(1000384, (⟨3, .int .i64, v6, true, false⟩ : Row)), (1000448, (⟨3, .int .i64, v7, true, false⟩ : Row))]
noncomputable def f118l5 : Clean := ⟨[2, 6, 7, 8, 9], [2], [], [], [(⟨false, 6, 0⟩, 1000384), (⟨false, 7, 0⟩, 1000448)]⟩
noncomputable def f118s6 (v6 v7 : LI) : St := stOf [(6, xo 1000384), (7, xo 1000448)] [] [(1000384, (⟨3, .int .i64, v6, true, false⟩ : Row)), (1000448, (⟨3, .int .i64, v7, true, false⟩ : Row))]
noncomputable def f118l6 : Clean := ⟨[6, 7], [], [], [], [(⟨false, 6, 0⟩, 1000384), (⟨false, 7, 0⟩, 1000448)]⟩
noncomputable def f118s7 (v4 v5 : LI) : St := stOf [(4, xo 1000256), (5, xo 1000320)] [] [(1000256, (⟨3, .int .i64, v4, true, false⟩ : Row)), (1000320, (⟨3, .int .i64, v5, true, false⟩ : Row))]
noncomputable def f118l7 : Clean := ⟨[4, 5], [], [], [], [(⟨false, 4, 0⟩, 1000256), (⟨false, 5, 0⟩, 1000320)]⟩
noncomputable def f118B : Nat → Option Clean := lookL [(2, f118l4), (1, f118l4), (0, f118l6), (1000000, f118l7)]
noncomputable abbrev f118i {ρ : Type} (N : Nat) (c : Code) (p : Plan) (σ : St) (K : KT ρ) : Option ρ := iCode f118G tab f118B N c p σ K
noncomputable def f118c (n : Nat) : Code := codeN 99 (bodyOf Try.f118) n
theorem f118t1 N v0 v1 (K : KT ρ) : f118i N (f118c 2) .n (f118s0 v0 v1) (joinK (some f118l1) K) =
  spec_l1Piece.Z1 N v0 v1 (fun v1 v2_0 v2_1 v2_2 => K .nrm (f118s1 v1 v2_0 v2_1 v2_2)) := by kernel_rfl
theorem f118t3 N v1 v2_0 v2_1 v2_2 (K : KT ρ) : f118i N (f118c 5) .n (f118s1 v1 v2_0 v2_1 v2_2) (joinK (some f118l2) K) =
  spec_l1Piece.Z3 N v1 v2_0 v2_1 v2_2 (fun v6 v1 v2_0 v2_1 v2_2 => K .nrm (f118s2 v6 v1 v2_0 v2_1 v2_2)) := by kernel_rfl
theorem f118t5 N v6 v1 v2_0 v2_1 v2_2 (K : KT ρ) : f118i N (f118c 11) .n (f118s2 v6 v1 v2_0 v2_1 v2_2) (joinK (some f118l3) K) =
  spec_l1Piece.Z5 N v6 v1 v2_0 v2_1 v2_2 (fun v6 v7 v2_0 v2_1 v2_2 => K .nrm (f118s3 v6 v7 v2_0 v2_1 v2_2)) := by kernel_rfl
theorem f118t8 N v6 v7 v2_0 v2_1 v2_2 (K : KT ρ) : f118i N (f118c 39) .n (f118s3 v6 v7 v2_0 v2_1 v2_2) (joinK (some f118l4) K) =
  spec_l1Piece.Z8 N v6 v7 v2_0 v2_1 v2_2 (fun v6 v7 v8 v2_0 v2_1 v2_2 => K .nrm (f118s4 v6 v7 v8 v2_0 v2_1 v2_2)) := by kernel_rfl
theorem f118t12 N v6 v7 v8 v2_0 v2_1 v2_2 (K : KT ρ) : f118i N (f118c 279) .n (f118s4 v6 v7 v8 v2_0 v2_1 v2_2) (joinK (some f118l4) K) =
  spec_l1Piece.Z12 N v6 v7 v8 v2_0 v2_1 v2_2 (fun v6 v7 v8 v2_0 v2_1 v2_2 => K .nrm (f118s4 v6 v7 v8 v2_0 v2_1 v2_2)) (fun v6 v7 => K (.exit 0) (f118s6 v6 v7)) := by kernel_rfl
theorem f118t16 N v6 v7 v8 v2_0 v2_1 v2_2 (K : KT ρ) : f118i N (f118c 2199) .n (f118s4 v6 v7 v8 v2_0 v2_1 v2_2) (joinK (some f118l5) K) =
  spec_l1Piece.Z16 N v6 v7 v8 v2_0 v2_1 v2_2 (fun v6 v7 v8 v9 v2_0 v2_1 v2_2 => K .nrm (f118s5 v6 v7 v8 v9 v2_0 v2_1 v2_2)) := by kernel_rfl
theorem f118t19 N v6 v7 v8 v9 v2_0 v2_1 v2_2 (K : KT ρ) : f118i N (f118c 9367) .n (f118s5 v6 v7 v8 v9 v2_0 v2_1 v2_2) (joinK (some f118l5) K) =
  spec_l1Piece.Z19 N v6 v7 v8 v9 v2_0 v2_1 v2_2 (fun v6 v7 v8 v9 v2_0 v2_1 v2_2 => K .nrm (f118s5 v6 v7 v8 v9 v2_0 v2_1 v2_2)) (fun v6 v7 v8 v2_0 v2_1 v2_2 => K (.exit 2) (f118s4 v6 v7 v8 v2_0 v2_1 v2_2)) := by kernel_rfl
noncomputable def f118p18 : Plan := .mk none (some f118l5) .n .n
noncomputable abbrev f118w18 {ρ : Type} (N M : Nat) (σ : St) (K : KT ρ) : Option ρ := loopC (fun σ K => f118i N (f118c 9367) .n σ K) f118l5 M σ K
theorem f118t18L {ρ : Type} (N : Nat) (K : KT ρ) : ∀ (M : Nat) (v6 v7 : LI) (v8 v9 v2_0 v2_1 : Int) (v2_2 : LI), f118w18 N M (f118s5 v6 v7 v8 v9 v2_0 v2_1 v2_2) K =
  spec_l1Piece.Z18L N (fun v6 v7 v8 v2_0 v2_1 v2_2 => K (.exit 2) (f118s4 v6 v7 v8 v2_0 v2_1 v2_2)) M v6 v7 v8 v9 v2_0 v2_1 v2_2
  | 0, _, _, _, _, _, _, _ => rfl
  | M + 1, v6, v7, v8, v9, v2_0, v2_1, v2_2 => viaRoundS (fun k => spec_l1Piece.Z19 N v6 v7 v8 v9 v2_0 v2_1 v2_2 k (fun v6 v7 v8 v2_0 v2_1 v2_2 => K (.exit 2) (f118s4 v6 v7 v8 v2_0 v2_1 v2_2))) (f118t19 N (K := seqK (fun σ => f118w18 N M σ K) K) ..) (fx7 fun v6 v7 v8 v9 v2_0 v2_1 v2_2 => f118t18L N K M v6 v7 v8 v9 v2_0 v2_1 v2_2) (by kernel_rfl)
theorem f118t18 N v6 v7 v8 v9 v2_0 v2_1 v2_2 (K : KT ρ) : f118i N (f118c 5271) f118p18 (f118s5 v6 v7 v8 v9 v2_0 v2_1 v2_2) (joinK (some f118l4) K) =
  spec_l1Piece.Z18 N v6 v7 v8 v9 v2_0 v2_1 v2_2 (fun v6 v7 v8 v2_0 v2_1 v2_2 => K (.exit 2) (f118s4 v6 v7 v8 v2_0 v2_1 v2_2)) :=
 viaLoopS (by kernel_rfl) (f118t18L N (joinK (some f118l4) K) N v6 v7 v8 v9 v2_0 v2_1 v2_2) (by kernel_rfl)
noncomputable def f118p17 : Plan := .mk (some f118l4) none f118p18 .n
theorem f118t17 N v6 v7 v8 v9 v2_0 v2_1 v2_2 (K : KT ρ) : f118i N (f118c 3223) f118p17 (f118s5 v6 v7 v8 v9 v2_0 v2_1 v2_2) (joinK (some f118l4) K) =
  spec_l1Piece.Z17 N v6 v7 v8 v9 v2_0 v2_1 v2_2 (fun v6 v7 v8 v2_0 v2_1 v2_2 => K .nrm (f118s4 v6 v7 v8 v2_0 v2_1 v2_2)) :=
 viaBlockS (by kernel_rfl) (f118t18 N (K := blockK 2 (joinK (some f118l4) K)) ..) (by kernel_rfl)
noncomputable def f118p15 : Plan := .mk (some f118l5) none .n f118p17
theorem f118t15 N v6 v7 v8 v2_0 v2_1 v2_2 (K : KT ρ) : f118i N (f118c 1175) f118p15 (f118s4 v6 v7 v8 v2_0 v2_1 v2_2) (joinK (some f118l4) K) =
  spec_l1Piece.Z15 N v6 v7 v8 v2_0 v2_1 v2_2 (fun v6 v7 v8 v2_0 v2_1 v2_2 => K .nrm (f118s4 v6 v7 v8 v2_0 v2_1 v2_2)) :=
 viaSeqS (fun k => spec_l1Piece.Z16 N v6 v7 v8 v2_0 v2_1 v2_2 k) (by kernel_rfl) (f118t16 N (K := seqK (fun σ => f118i N (f118c 3223) f118p17 σ (joinK (some f118l4) K)) (joinK (some f118l4) K)) ..) (fx7 fun v6 v7 v8 v9 v2_0 v2_1 v2_2 => f118t17 N v6 v7 v8 v9 v2_0 v2_1 v2_2 K) (by kernel_rfl)
noncomputable def f118p14 : Plan := .mk (some f118l4) none f118p15 .n
theorem f118t14 N v6 v7 v8 v2_0 v2_1 v2_2 (K : KT ρ) : f118i N (f118c 663) f118p14 (f118s4 v6 v7 v8 v2_0 v2_1 v2_2) (joinK (some f118l4) K) =
  spec_l1Piece.Z14 N v6 v7 v8 v2_0 v2_1 v2_2 (fun v6 v7 v8 v2_0 v2_1 v2_2 => K .nrm (f118s4 v6 v7 v8 v2_0 v2_1 v2_2)) :=
 viaBlockS (by kernel_rfl) (f118t15 N (K := blockK 1 (joinK (some f118l4) K)) ..) (by kernel_rfl)
theorem f118t20 N v6 v7 v8 v2_0 v2_1 v2_2 (K : KT ρ) : f118i N (f118c 919) .n (f118s4 v6 v7 v8 v2_0 v2_1 v2_2) (joinK (some f118l4) K) =
  spec_l1Piece.Z20 N v6 v7 v8 v2_0 v2_1 v2_2 (fun v6 v7 v8 v2_0 v2_1 v2_2 => K .nrm (f118s4 v6 v7 v8 v2_0 v2_1 v2_2)) := by kernel_rfl
noncomputable def f118p13 : Plan := .mk (some f118l4) none f118p14 .n
theorem f118t13 N v6 v7 v8 v2_0 v2_1 v2_2 (K : KT ρ) : f118i N (f118c 407) f118p13 (f118s4 v6 v7 v8 v2_0 v2_1 v2_2) (joinK (some f118l4) K) =
  spec_l1Piece.Z13 N v6 v7 v8 v2_0 v2_1 v2_2 (fun v6 v7 v8 v2_0 v2_1 v2_2 => K .nrm (f118s4 v6 v7 v8 v2_0 v2_1 v2_2)) :=
 viaSeqS (fun k => spec_l1Piece.Z14 N v6 v7 v8 v2_0 v2_1 v2_2 k) (by kernel_rfl) (f118t14 N (K := seqK (fun σ => f118i N (f118c 919) .n σ (joinK (some f118l4) K)) (joinK (some f118l4) K)) ..) (fx6 fun v6 v7 v8 v2_0 v2_1 v2_2 => f118t20 N v6 v7 v8 v2_0 v2_1 v2_2 K) (by kernel_rfl)
noncomputable def f118p11 : Plan := .mk (some f118l4) none .n f118p13
theorem f118t11 N v6 v7 v8 v2_0 v2_1 v2_2 (K : KT ρ) : f118i N (f118c 151) f118p11 (f118s4 v6 v7 v8 v2_0 v2_1 v2_2) (joinK (some f118l4) K) =
  spec_l1Piece.Z11 N v6 v7 v8 v2_0 v2_1 v2_2 (fun v6 v7 v8 v2_0 v2_1 v2_2 => K .nrm (f118s4 v6 v7 v8 v2_0 v2_1 v2_2)) (fun v6 v7 => K (.exit 0) (f118s6 v6 v7)) :=
 viaSeqS (fun k => spec_l1Piece.Z12 N v6 v7 v8 v2_0 v2_1 v2_2 k (fun v6 v7 => K (.exit 0) (f118s6 v6 v7))) (by kernel_rfl) (f118t12 N (K := seqK (fun σ => f118i N (f118c 407) f118p13 σ (joinK (some f118l4) K)) (joinK (some f118l4) K)) ..) (fx6 fun v6 v7 v8 v2_0 v2_1 v2_2 => f118t13 N v6 v7 v8 v2_0 v2_1 v2_2 K) (by kernel_rfl)
noncomputable def f118p10 : Plan := .mk none (some f118l4) f118p11 .n
noncomputable abbrev f118w10 {ρ : Type} (N M : Nat) (σ : St) (K : KT ρ) : Option ρ := loopC (fun σ K => f118i N (f118c 151) f118p11 σ K) f118l4 M σ K
theorem f118t10L {ρ : Type} (N : Nat) (K : KT ρ) : ∀ (M : Nat) (v6 v7 : LI) (v8 v2_0 v2_1 : Int) (v2_2 : LI), f118w10 N M (f118s4 v6 v7 v8 v2_0 v2_1 v2_2) K =
  spec_l1Piece.Z10L N (fun v6 v7 => K (.exit 0) (f118s6 v6 v7)) M v6 v7 v8 v2_0 v2_1 v2_2
  | 0, _, _, _, _, _, _ => rfl
  | M + 1, v6, v7, v8, v2_0, v2_1, v2_2 => viaRoundS (fun k => spec_l1Piece.Z11 N v6 v7 v8 v2_0 v2_1 v2_2 k (fun v6 v7 => K (.exit 0) (f118s6 v6 v7))) (f118t11 N (K := seqK (fun σ => f118w10 N M σ K) K) ..) (fx6 fun v6 v7 v8 v2_0 v2_1 v2_2 => f118t10L N K M v6 v7 v8 v2_0 v2_1 v2_2) (by kernel_rfl)
theorem f118t10 N v6 v7 v8 v2_0 v2_1 v2_2 (K : KT ρ) : f118i N (f118c 87) f118p10 (f118s4 v6 v7 v8 v2_0 v2_1 v2_2) (joinK (some f118l6) K) =
  spec_l1Piece.Z10 N v6 v7 v8 v2_0 v2_1 v2_2 (fun v6 v7 => K (.exit 0) (f118s6 v6 v7)) :=
 viaLoopS (by kernel_rfl) (f118t10L N (joinK (some f118l6) K) N v6 v7 v8 v2_0 v2_1 v2_2) (by kernel_rfl)
noncomputable def f118p9 : Plan := .mk (some f118l6) none f118p10 .n
theorem f118t9 N v6 v7 v8 v2_0 v2_1 v2_2 (K : KT ρ) : f118i N (f118c 55) f118p9 (f118s4 v6 v7 v8 v2_0 v2_1 v2_2) (joinK (some f118l6) K) =
  spec_l1Piece.Z9 N v6 v7 v8 v2_0 v2_1 v2_2 (fun v6 v7 => K .nrm (f118s6 v6 v7)) :=
 viaBlockS (by kernel_rfl) (f118t10 N (K := blockK 0 (joinK (some f118l6) K)) ..) (by kernel_rfl)
noncomputable def f118p7 : Plan := .mk (some f118l4) none .n f118p9
theorem f118t7 N v6 v7 v2_0 v2_1 v2_2 (K : KT ρ) : f118i N (f118c 23) f118p7 (f118s3 v6 v7 v2_0 v2_1 v2_2) (joinK (some f118l6) K) =
  spec_l1Piece.Z7 N v6 v7 v2_0 v2_1 v2_2 (fun v6 v7 => K .nrm (f118s6 v6 v7)) :=
 viaSeqS (fun k => spec_l1Piece.Z8 N v6 v7 v2_0 v2_1 v2_2 k) (by kernel_rfl) (f118t8 N (K := seqK (fun σ => f118i N (f118c 55) f118p9 σ (joinK (some f118l6) K)) (joinK (some f118l6) K)) ..) (fx6 fun v6 v7 v8 v2_0 v2_1 v2_2 => f118t9 N v6 v7 v8 v2_0 v2_1 v2_2 K) (by kernel_rfl)
theorem f118t21 N v6 v7 (K : KT ρ) : f118i N (f118c 31) .n (f118s6 v6 v7) (joinK (some f118lE) K) =
  spec_l1Piece.Z21 N v6 v7 (fun v4 v5 => K .ret (f118s7 v4 v5)) := by kernel_rfl
noncomputable def f118p6 : Plan := .mk (some f118l6) none f118p7 .n
theorem f118t6 N v6 v7 v2_0 v2_1 v2_2 (K : KT ρ) : f118i N (f118c 15) f118p6 (f118s3 v6 v7 v2_0 v2_1 v2_2) (joinK (some f118lE) K) =
  spec_l1Piece.Z6 N v6 v7 v2_0 v2_1 v2_2 (fun v4 v5 => K .ret (f118s7 v4 v5)) :=
 viaSeqS (fun k => spec_l1Piece.Z7 N v6 v7 v2_0 v2_1 v2_2 k) (by kernel_rfl) (f118t7 N (K := seqK (fun σ => f118i N (f118c 31) .n σ (joinK (some f118lE) K)) (joinK (some f118lE) K)) ..) (fx2 fun v6 v7 => f118t21 N v6 v7 K) (by kernel_rfl)
noncomputable def f118p4 : Plan := .mk (some f118l3) none .n f118p6
theorem f118t4 N v6 v1 v2_0 v2_1 v2_2 (K : KT ρ) : f118i N (f118c 7) f118p4 (f118s2 v6 v1 v2_0 v2_1 v2_2) (joinK (some f118lE) K) =
  spec_l1Piece.Z4 N v6 v1 v2_0 v2_1 v2_2 (fun v4 v5 => K .ret (f118s7 v4 v5)) :=
 viaSeqS (fun k => spec_l1Piece.Z5 N v6 v1 v2_0 v2_1 v2_2 k) (by kernel_rfl) (f118t5 N (K := seqK (fun σ => f118i N (f118c 15) f118p6 σ (joinK (some f118lE) K)) (joinK (some f118lE) K)) ..) (fx5 fun v6 v7 v2_0 v2_1 v2_2 => f118t6 N v6 v7 v2_0 v2_1 v2_2 K) (by kernel_rfl)
noncomputable def f118p2 : Plan := .mk (some f118l2) none .n f118p4
theorem f118t2 N v1 v2_0 v2_1 v2_2 (K : KT ρ) : f118i N (f118c 3) f118p2 (f118s1 v1 v2_0 v2_1 v2_2) (joinK (some f118lE) K) =
  spec_l1Piece.Z2 N v1 v2_0 v2_1 v2_2 (fun v4 v5 => K .ret (f118s7 v4 v5)) :=
 viaSeqS (fun k => spec_l1Piece.Z3 N v1 v2_0 v2_1 v2_2 k) (by kernel_rfl) (f118t3 N (K := seqK (fun σ => f118i N (f118c 7) f118p4 σ (joinK (some f118lE) K)) (joinK (some f118lE) K)) ..) (fx5 fun v6 v1 v2_0 v2_1 v2_2 => f118t4 N v6 v1 v2_0 v2_1 v2_2 K) (by kernel_rfl)
noncomputable def f118p0 : Plan := .mk (some f118l1) none .n f118p2
theorem f118t0 N v0 v1 (K : KT ρ) : f118i N (f118c 1) f118p0 (f118s0 v0 v1) (joinK (some f118lE) K) =
  spec_l1Piece.Z0 N v0 v1 (fun v4 v5 => K .ret (f118s7 v4 v5)) :=
 viaSeqS (fun k => spec_l1Piece.Z1 N v0 v1 k) (by kernel_rfl) (f118t1 N (K := seqK (fun σ => f118i N (f118c 3) f118p2 σ (joinK (some f118lE) K)) (joinK (some f118lE) K)) ..) (fx4 fun v1 v2_0 v2_1 v2_2 => f118t2 N v1 v2_0 v2_1 v2_2 K) (by kernel_rfl)
theorem f118m (N : Nat) (v0 : MT) (v1 : Int) : f118i N (f118c 1) f118p0 (f118s0 v0 v1) (joinK (some f118lE) (finK tab f118sig Try.f118.results.toList)) = spec_l1Piece.Z0 N v0 v1 (fun v4 v5 => some ((), (v4, (v5, ())))) :=
  (f118t0 N v0 v1 (finK tab f118sig Try.f118.results.toList)).trans (by kernel_rfl)
theorem f118ok (h : spec_l1Piece.Spec) : EntryOk Try.prog 118 e118 :=
  entry_of_code (sig := f118sig) (c := (f118c 1)) (pl := f118p0) (je := (some f118lE)) (B := f118B) Try.func118 (by kernel_rfl) (by kernel_rfl) (by kernel_rfl) tabOk f118GOk (by kernel_rfl) (by kernel_rfl) (by kernel_rfl) (by kernel_rfl) fun X hb hp => by
    obtain ⟨v0, v1, _⟩ := X
    obtain ⟨N, h⟩ := h v0 v1 hb.1 hp
    exact ⟨N, (f118m N v0 v1).trans (h N (Nat.le_refl N))⟩
theorem e118ok : EntryOk Try.prog 118 e118 := f118ok spec_l1Piece.ok
end Go.Fw
namespace Go.Fw
variable {ρ : Type}
open Go.Proofs
noncomputable def f119sig : Sig := ⟨[⟨.int .i64, false, false⟩], [⟨.int .i64, false, false⟩]⟩
noncomputable def e119 : Entry := ⟨f119sig, none, fun X => ((), ((spec_l1Abs.g X.1), ()))⟩
noncomputable def f119G : Gm := emptyG
theorem f119GOk : GOk Try.prog f119G := GOk.nil
noncomputable def f119lE : Clean := ⟨[], [], [], [], []⟩
noncomputable def f119s0 (v0 : Int) : St := initSt f119sig.ps (v0, ())
noncomputable def f119s1 (v2 : Int) : St := stOf [(2, xi v2)] [] []
noncomputable def f119l1 : Clean := ⟨[2], [], [], [], []⟩
noncomputable def f119B : Nat → Option Clean := lookL [(1000000, f119l1)]
noncomputable abbrev f119i {ρ : Type} (N : Nat) (c : Code) (p : Plan) (σ : St) (K : KT ρ) : Option ρ := iCode f119G tab f119B N c p σ K
noncomputable def f119c (n : Nat) : Code := codeN 99 (bodyOf Try.f119) n
theorem f119t0 N v0 (K : KT ρ) : f119i N (f119c 1) .n (f119s0 v0) (joinK (some f119lE) K) =
  spec_l1Abs.Z0 N v0 (fun v2 => K .ret (f119s1 v2)) := by kernel_rfl
theorem f119m (N : Nat) (v0 : Int) : f119i N (f119c 1) .n (f119s0 v0) (joinK (some f119lE) (finK tab f119sig Try.f119.results.toList)) = spec_l1Abs.Z0 N v0 (fun v2 => some ((), (v2, ()))) :=
  (f119t0 N v0 (finK tab f119sig Try.f119.results.toList)).trans (by kernel_rfl)
theorem f119ok (h : spec_l1Abs.Spec) : EntryOk Try.prog 119 e119 :=
  entry_of_code (sig := f119sig) (c := (f119c 1)) (pl := .n) (je := (some f119lE)) (B := f119B) Try.func119 (by kernel_rfl) (by kernel_rfl) (by kernel_rfl) tabOk f119GOk (by kernel_rfl) (by kernel_rfl) (by kernel_rfl) (by kernel_rfl) fun X hb hp => by
    obtain ⟨v0, _⟩ := X
    obtain ⟨N, h⟩ := h v0
    exact ⟨N, (f119m N v0).trans (h N (Nat.le_refl N))⟩
theorem e119ok : EntryOk Try.prog 119 e119 := f119ok spec_l1Abs.ok
end Go.Fw
namespace Go.Fw
variable {ρ : Type}
open Go.Proofs
noncomputable def f120sig : Sig := ⟨[⟨.int .i64, false, false⟩, ⟨.int .i64, false, false⟩], [⟨.int .i64, false, false⟩]⟩
noncomputable def e120 : Entry := ⟨f120sig, (some fun X => spec_l1Gcd.P X.1 X.2.1), fun X => ((), ((spec_l1Gcd.g X.1 X.2.1), ()))⟩
noncomputable def f120G : Gm := emptyG
theorem f120GOk : GOk Try.prog f120G := GOk.nil
noncomputable def f120lE : Clean := ⟨[], [], [], [], []⟩
noncomputable def f120s0 (v0 v1 : Int) : St := initSt f120sig.ps (v0, (v1, ()))
noncomputable def f120s1 (v0 v1 : Int) : St := stOf [(0, xi v0), (1, xi v1)] [] []
noncomputable def f120l1 : Clean := ⟨[0, 1], [], [], [], []⟩
noncomputable def f120s2 (v0 : Int) : St := stOf [(0, xi v0)] [] []
noncomputable def f120l2 : Clean := ⟨[0], [], [], [], []⟩
noncomputable def f120s3 (v4 : Int) : St := stOf [(4, xi v4)] [] []
noncomputable def f120l3 : Clean := ⟨[4], [], [], [], []⟩
noncomputable def f120B : Nat → Option Clean := lookL [(0, f120l2), (1000000, f120l3)]
noncomputable abbrev f120i {ρ : Type} (N : Nat) (c : Code) (p : Plan) (σ : St) (K : KT ρ) : Option ρ := iCode f120G tab f120B N c p σ K
noncomputable def f120c (n : Nat) : Code := codeN 99 (bodyOf Try.f120) n
theorem f120t1 N v0 v1 (K : KT ρ) : f120i N (f120c 2) .n (f120s0 v0 v1) (joinK (some f120l1) K) =
  spec_l1Gcd.Z1 N v0 v1 (fun v0 v1 => K .nrm (f120s1 v0 v1)) := by kernel_rfl
theorem f120t5 N v0 v1 (K : KT ρ) : f120i N (f120c 17) .n (f120s1 v0 v1) (joinK (some f120l1) K) =
  spec_l1Gcd.Z5 N v0 v1 (fun v0 v1 => K .nrm (f120s1 v0 v1)) (fun v0 => K (.exit 0) (f120s2 v0)) := by kernel_rfl
noncomputable def f120p4 : Plan := .mk none (some f120l1) .n .n
noncomputable abbrev f120w4 {ρ : Type} (N M : Nat) (σ : St) (K : KT ρ) : Option ρ := loopC (fun σ K => f120i N (f120c 17) .n σ K) f120l1 M σ K
theorem f120t4L {ρ : Type} (N : Nat) (K : KT ρ) : ∀ (M : Nat) (v0 v1 : Int), f120w4 N M (f120s1 v0 v1) K =
  spec_l1Gcd.Z4L N (fun v0 => K (.exit 0) (f120s2 v0)) M v0 v1
  | 0, _, _ => rfl
  | M + 1, v0, v1 => viaRoundS (fun k => spec_l1Gcd.Z5 N v0 v1 k (fun v0 => K (.exit 0) (f120s2 v0))) (f120t5 N (K := seqK (fun σ => f120w4 N M σ K) K) ..) (fx2 fun v0 v1 => f120t4L N K M v0 v1) (by kernel_rfl)
theorem f120t4 N v0 v1 (K : KT ρ) : f120i N (f120c 9) f120p4 (f120s1 v0 v1) (joinK (some f120l2) K) =
  spec_l1Gcd.Z4 N v0 v1 (fun v0 => K (.exit 0) (f120s2 v0)) :=
 viaLoopS (by kernel_rfl) (f120t4L N (joinK (some f120l2) K) N v0 v1) (by kernel_rfl)
noncomputable def f120p3 : Plan := .mk (some f120l2) none f120p4 .n
theorem f120t3 N v0 v1 (K : KT ρ) : f120i N (f120c 5) f120p3 (f120s1 v0 v1) (joinK (some f120l2) K) =
  spec_l1Gcd.Z3 N v0 v1 (fun v0 => K .nrm (f120s2 v0)) :=
 viaBlockS (by kernel_rfl) (f120t4 N (K := blockK 0 (joinK (some f120l2) K)) ..) (by kernel_rfl)
theorem f120t6 N v0 (K : KT ρ) : f120i N (f120c 7) .n (f120s2 v0) (joinK (some f120lE) K) =
  spec_l1Gcd.Z6 N v0 (fun v4 => K .ret (f120s3 v4)) := by kernel_rfl
noncomputable def f120p2 : Plan := .mk (some f120l2) none f120p3 .n
theorem f120t2 N v0 v1 (K : KT ρ) : f120i N (f120c 3) f120p2 (f120s1 v0 v1) (joinK (some f120lE) K) =
  spec_l1Gcd.Z2 N v0 v1 (fun v4 => K .ret (f120s3 v4)) :=
 viaSeqS (fun k => spec_l1Gcd.Z3 N v0 v1 k) (by kernel_rfl) (f120t3 N (K := seqK (fun σ => f120i N (f120c 7) .n σ (joinK (some f120lE) K)) (joinK (some f120lE) K)) ..) (funext fun v0 => f120t6 N v0 K) (by kernel_rfl)
noncomputable def f120p0 : Plan := .mk (some f120l1) none .n f120p2
theorem f120t0 N v0 v1 (K : KT ρ) : f120i N (f120c 1) f120p0 (f120s0 v0 v1) (joinK (some f120lE) K) =
  spec_l1Gcd.Z0 N v0 v1 (fun v4 => K .ret (f120s3 v4)) :=
 viaSeqS (fun k => spec_l1Gcd.Z1 N v0 v1 k) (by kernel_rfl) (f120t1 N (K := seqK (fun σ => f120i N (f120c 3) f120p2 σ (joinK (some f120lE) K)) (joinK (some f120lE) K)) ..) (fx2 fun v0 v1 => f120t2 N v0 v1 K) (by kernel_rfl)
theorem f120m (N : Nat) (v0 v1 : Int) : f120i N (f120c 1) f120p0 (f120s0 v0 v1) (joinK (some f120lE) (finK tab f120sig Try.f120.results.toList)) = spec_l1Gcd.Z0 N v0 v1 (fun v4 => some ((), (v4, ()))) :=
  (f120t0 N v0 v1 (finK tab f120sig Try.f120.results.toList)).trans (by kernel_rfl)
theorem f120ok (h : spec_l1Gcd.Spec) : EntryOk Try.prog 120 e120 :=
  entry_of_code (sig := f120sig) (c := (f120c 1)) (pl := f120p0) (je := (some f120lE)) (B := f120B) Try.func120 (by kernel_rfl) (by kernel_rfl) (by kernel_rfl) tabOk f120GOk (by kernel_rfl) (by kernel_rfl) (by kernel_rfl) (by kernel_rfl) fun X hb hp => by
    obtain ⟨v0, v1, _⟩ := X
    obtain ⟨N, h⟩ := h v0 v1 hp
    exact ⟨N, (f120m N v0 v1).trans (h N (Nat.le_refl N))⟩
theorem e120ok : EntryOk Try.prog 120 e120 := f120ok spec_l1Gcd.ok
end Go.Fw
namespace Go.Fw
variable {ρ : Type}
open Go.Proofs
noncomputable def f94sig : Sig := ⟨[⟨.pair (.int .i64) (.pair (.int .i64) (.sl 3 (.int .i64))), true, false⟩], [⟨.sl 3 (.int .i64), false, false⟩, ⟨.bool, false, false⟩]⟩
noncomputable def e94 : Entry := ⟨f94sig, (some fun X => spec_l1Factors.P X.1), fun X => ((), ((spec_l1Factors.g X.1).1, ((spec_l1Factors.g X.1).2, ())))⟩
noncomputable def f94G : Gm := addG (addG (addG (addG emptyG 80 e80) 118 e118) 119 e119) 120 e120
theorem f94GOk : GOk Try.prog f94G := ((((GOk.nil).add e80ok (by kernel_rfl)).add e118ok (by kernel_rfl)).add e119ok (by kernel_rfl)).add e120ok (by kernel_rfl)
noncomputable def f94lE : Clean := ⟨[], [], [], [], []⟩
noncomputable def f94s0 (v0 : MT) : St := initSt f94sig.ps (v0, ())
noncomputable def f94s1 (v1_0 v1_1 : Int) (v1_2 : LI) : St := stOf [(1, xb 1)] [(1, (30, [yi v1_0, yi v1_1, .sn 3 tI v1_2 none]))] []
noncomputable def f94l1 : Clean := ⟨[1], [1], [], [], []⟩
noncomputable def f94s2 (v4 : LI) (v1_0 v1_1 : Int) (v1_2 : LI) : St := stOf [(1, xb 1), (4, xo 1000256)] [(1, (30, [yi v1_0, yi v1_1, .sn 3 tI v1_2 none]))] [(1000256, (⟨3, .int .i64, v4, true, false⟩ : Row))]
noncomputable def f94l2 : Clean := ⟨[1, 4], [1], [], [], [(⟨false, 4, 0⟩, 1000256)]⟩
noncomputable def f94s3 (v4 : LI) (v5 v1_0 v1_1 : Int) (v1_2 : LI) : St := stOf [(1, xb 1), (4, xo 1000256), (5, xi v5)] [(1, (30, [yi v1_0, yi v1_1, .sn 3 tI v1_2 none]))] [(1000256, (⟨3, .int .i64, v4, true, false⟩ : Row))]
noncomputable def f94l3 : Clean := ⟨[1, 4, 5], [1], [], [], [(⟨false, 4, 0⟩, 1000256)]⟩
noncomputable def f94s4 (v4 v6 v7 : LI) (v5 v1_0 v1_1 : Int) (v1_2 : LI) : St := stOf [(1, xb 1), (4, xo 1000256), (5, xi v5), (6, xo 1000384), (7, xo 1000448)] [(1, (30, [yi v1_0, yi v1_1, .sn 3 tI v1_2 none]))] [(1000256, (⟨3, .int .i64, v4, true, false⟩ : Row)), (1000384, (⟨3, .int .i64, v6, true, false⟩ : Row)), (1000448, (⟨3, .int .i64, v7, true, false⟩ : Row))]
noncomputable def f94l4 : Clean := ⟨[1, 4, 5, 6, 7], [1], [], [], [(⟨false, 4, 0⟩, 1000256), (⟨false, 6, 0⟩, 1000384), (⟨false, 7, 0⟩, 1000448)]⟩
noncomputable def f94s5 (v4 v6 v7 : LI) (v5 v8 v1_0 v1_1 : Int) (v1_2 : LI) : St := stOf [(1, xb 1), (4, xo 1000256), (5, xi v5), (6, xo 1000384), (7, xo 1000448), (8, xi v8)] [(1, (30, [yi v1_0, yi v1_1, .sn 3 tI v1_2 none]))] [(1000256, (⟨3, .int .i64, v4, true, false⟩ : Row)), (1000384, (⟨3, .int .i64, v6, true, false⟩ : Row)), (1000448, (⟨3, .int .i64, v7, true, false⟩ : Row))]
noncomputable def f94l5 : Clean := ⟨[1, 4, 5, 6, 7, 8], [1], [], [], [(⟨false, 4, 0⟩, 1000256), (⟨false, 6, 0⟩, 1000384), (⟨false, 7, 0⟩, 1000448)]⟩
noncomputable def f94s6 (v4 v6 v7 : LI) (v5 v9 v1_0 v1_1 : Int) (v1_2 : LI) : St := stOf [(1, xb 1), (4, xo 1000256), (5, xi v5), (6, xo 1000384), (7, xo 1000448), (9, xi v9)] [(1, (30, [yi v1_0, yi v1_1, .sn 3 tI v1_2 none]))] [(1000256, (⟨3, .int .i64, v4, true, false⟩ : Row)), (1000384, (⟨3, .int .i64, v6, true, false⟩ : Row)), (1000448, (⟨3, .int .i64, v7, true, false⟩ : Row))]
noncomputable def f94l6 : Clean := ⟨[1, 4, 5, 6, 7, 9], [1], [], [], [(⟨false, 4, 0⟩, 1000256), (⟨false, 6, 0⟩, 1000384), (⟨false, 7, 0⟩, 1000448)]⟩
noncomputable def f94s7 (v4 v6 v7 : LI) (v5 v9 v10 v1_0 v1_1 : Int) (v1_2 : LI) : St := stOf [(1, xb 1), (4, xo 1000256), (5, xi v5), (6, xo 1000384), (7, xo 1000448), (9, xi v9), (10, xi v10)] [(1, (30, [yi v1_0, yi v1_1, .sn 3 tI v1_2 none]))] [(1000256, (⟨3, .int .i64, v4, true, false⟩ : Row)), (1000384, (⟨3, .int .i64, v6, true, false⟩ : Row)), (1000448, (⟨3, .int .i64, v7, true, false⟩ : Row))]
noncomputable def f94l7 : Clean := ⟨[1, 4, 5, 6, 7, 9, 10], [1], [], [], [(⟨false, 4, 0⟩, 1000256), (⟨false, 6, 0⟩, 1000384), (⟨false, 7, 0⟩, 1000448)]⟩
noncomputable def f94s8 (v4 v6 : LI) (v5 v9 v1_0 v1_1 : Int) (v1_2 : LI) : St := stOf [(1, xb 1), (4, xo 1000256), (5, xi v5), (6, xo 1000384), (9, xi v9)] [(1, (30, [yi v1_0, yi v1_1, .sn 3 tI v1_2 none]))] [(1000256, (⟨3, .int .i64, v4, true, false⟩ : Row)), (1000384, (⟨3, .int .i64, v6, true, false⟩ : Row))]
noncomputable def f94l8 : Clean := ⟨[1, 4, 5, 6, 9], [1], [], [], [(⟨false, 4, 0⟩, 1000256), (⟨false, 6, 0⟩, 1000384)]⟩
noncomputable def f94s9 (v4 v6 : LI) (v5 v9 v11 v1_0 v1_1 : Int) (v1_2 : LI) : St := stOf [(1, xb 1), (4, xo 1000256), (5, xi v5), (6, xo 1000384), (9, xi v9), (11, xi v11)] [(1, (30, [yi v1_0, yi v1_1, .sn 3 tI v1_2 none]))] [(1000256, (⟨3, .int .i64, v4, true, false⟩ : Row)), (1000384, (⟨3, .int .i64, v6, true, false⟩ : Row))]
noncomputable def f94l9 : Clean := ⟨[1, 4, 5, 6, 9, 11], [1], [], [], [(⟨false, 4, 0⟩, 1000256), (⟨false, 6, 0⟩, 1000384)]⟩
noncomputable def f94s10 (v4 : LI) (v12 v1_0 v1_1 : Int) (v1_2 : LI) : St := stOf [(1, xb 1), (4, xo 1000256), (12, xi v12)] [(1, (30, [yi v1_0, yi v1_1, .sn 3 tI v1_2 none]))] [(1000256, (⟨3, .int .i64, v4, true, false⟩ : Row))]
noncomputable def f94l10 : Clean := ⟨[1, 4, 12], [1], [], [], [(⟨false, 4, 0⟩, 1000256)]⟩
noncomputable def f94s11 (v4 : LI) (v12 v13 v1_0 v1_1 : Int) (v1_2 : LI) : St := stOf [(1, xb 1), (4, xo 1000256), (12, xi v12), (13, xi v13)] [(1, (30, [yi v1_0, yi v1_1, .sn 3 tI v1_2 none]))] [(1000256, (⟨3, .int .i64, v4, true, false⟩ : Row))]
noncomputable def f94l11 : Clean := ⟨[1, 4, 12, 13], [1], [], [], [(⟨false, 4, 0⟩, 1000256)]⟩
noncomputable def f94s12 (v4 : LI) : St := stOf [(4, xo 1000256)] [] [(1000256, (⟨3, .int .i64, v4, true, false⟩ : Row))]
noncomputable def f94l12 : Clean := ⟨[4], [], [], [], [(⟨false, 4, 0⟩, 1000256)]⟩
noncomputable def f94s13 (v2 : LI) (v3 : Bool) : St := stOf [(2, xo 1000128), (3, xB v3)] [] [(1000128, (⟨3, .int .i64, v2, true, false⟩ : Row))]
noncomputable def f94l13 : Clean := ⟨[2, 3], [], [⟨⟨false, 2, 0⟩, 30000000, 3, .int .i64, true⟩], [], [(⟨false, 2, 0⟩, 1000128)]⟩
noncomputable def f94B : Nat → Option Clean := lookL [(2, f94l4), (4, f94l8), (6, f94l3), (1, f94l3), (0, f94l2), (10, f94l10), (9, f94l10), (8, f94l12), (1000000, f94l13)]
noncomputable abbrev f94i {ρ : Type} (N : Nat) (c : Code) (p : Plan) (σ : St) (K : KT ρ) : Option ρ := iCode f94G tab f94B N c p σ K
noncomputable def f94c (n : Nat) : Code := codeN 99 (bodyOf Try.f94) n
theorem f94t1 N v0 (K : KT ρ) : f94i N (f94c 2) .n (f94s0 v0) (joinK (some f94l1) K) =
  spec_l1Factors.Z1 N v0 (fun v1_0 v1_1 v1_2 => K .nrm (f94s1 v1_0 v1_1 v1_2)) := by kernel_rfl
theorem f94t3 N v1_0 v1_1 v1_2 (K : KT ρ) : f94i N (f94c 5) .n (f94s1 v1_0 v1_1 v1_2) (joinK (some f94l2) K) =
  spec_l1Factors.Z3 N v1_0 v1_1 v1_2 (fun v4 v1_0 v1_1 v1_2 => K .nrm (f94s2 v4 v1_0 v1_1 v1_2)) := by kernel_rfl
theorem f94t6 N v4 v1_0 v1_1 v1_2 (K : KT ρ) : f94i N (f94c 19) .n (f94s2 v4 v1_0 v1_1 v1_2) (joinK (some f94l3) K) =
  spec_l1Factors.Z6 N v4 v1_0 v1_1 v1_2 (fun v4 v5 v1_0 v1_1 v1_2 => K .nrm (f94s3 v4 v5 v1_0 v1_1 v1_2)) := by kernel_rfl
theorem f94t10 N v4 v5 v1_0 v1_1 v1_2 (K : KT ρ) : f94i N (f94c 139) .n (f94s3 v4 v5 v1_0 v1_1 v1_2) (joinK (some f94l3) K) =
  spec_l1Factors.Z10 N v4 v5 v1_0 v1_1 v1_2 (fun v4 v5 v1_0 v1_1 v1_2 => K .nrm (f94s3 v4 v5 v1_0 v1_1 v1_2)) (fun v4 v1_0 v1_1 v1_2 => K (.exit 0) (f94s2 v4 v1_0 v1_1 v1_2)) := by kernel_rfl
theorem f94t14 N v4 v5 v1_0 v1_1 v1_2 (K : KT ρ) : f94i N (f94c 1099) .n (f94s3 v4 v5 v1_0 v1_1 v1_2) (joinK (some f94l3) K) =
  spec_l1Factors.Z14 N v4 v5 v1_0 v1_1 v1_2 (fun v4 v5 v1_0 v1_1 v1_2 => K .nrm (f94s3 v4 v5 v1_0 v1_1 v1_2)) (fun v4 v5 v1_0 v1_1 v1_2 => K (.exit 1) (f94s3 v4 v5 v1_0 v1_1 v1_2)) := by kernel_rfl
theorem f94t16 N v4 v5 v1_0 v1_1 v1_2 (K : KT ρ) : f94i N (f94c 2635) .n (f94s3 v4 v5 v1_0 v1_1 v1_2) (joinK (some f94l4) K) =
  spec_l1Factors.Z16 N v4 v5 v1_0 v1_1 v1_2 (fun v4 v6 v7 v5 v1_0 v1_1 v1_2 => K .nrm (f94s4 v4 v6 v7 v5 v1_0 v1_1 v1_2)) := by kernel_rfl
theorem f94t18 N v4 v6 v7 v5 v1_0 v1_1 v1_2 (K : KT ρ) : f94i N (f94c 5707) .n (f94s4 v4 v6 v7 v5 v1_0 v1_1 v1_2) (joinK (some f94l4) K) =
  spec_l1Factors.Z18 N v4 v6 v7 v5 v1_0 v1_1 v1_2 (fun v4 v6 v7 v5 v1_0 v1_1 v1_2 => K .nrm (f94s4 v4 v6 v7 v5 v1_0 v1_1 v1_2)) := by kernel_rfl
theorem f94t21 N v4 v6 v7 v5 v1_0 v1_1 v1_2 (K : KT ρ) : f94i N (f94c 20043) .n (f94s4 v4 v6 v7 v5 v1_0 v1_1 v1_2) (joinK (some f94l5) K) =
  spec_l1Factors.Z21 N v4 v6 v7 v5 v1_0 v1_1 v1_2 (fun v4 v6 v7 v5 v8 v1_0 v1_1 v1_2 => K .nrm (f94s5 v4 v6 v7 v5 v8 v1_0 v1_1 v1_2)) := by kernel_rfl
theorem f94t24 N v4 v6 v7 v5 v8 v1_0 v1_1 v1_2 (K : KT ρ) : f94i N (f94c 77387) .n (f94s5 v4 v6 v7 v5 v8 v1_0 v1_1 v1_2) (joinK (some f94l5) K) =
  spec_l1Factors.Z24 N v4 v6 v7 v5 v8 v1_0 v1_1 v1_2 (fun v4 v6 v7 v5 v8 v1_0 v1_1 v1_2 => K .nrm (f94s5 v4 v6 v7 v5 v8 v1_0 v1_1 v1_2)) (fun v4 v6 v7 v5 v1_0 v1_1 v1_2 => K (.exit 2) (f94s4 v4 v6 v7 v5 v1_0 v1_1 v1_2)) := by kernel_rfl
noncomputable def f94p23 : Plan := .mk none (some f94l5) .n .n
noncomputable abbrev f94w23 {ρ : Type} (N M : Nat) (σ : St) (K : KT ρ) : Option ρ := loopC (fun σ K => f94i N (f94c 77387) .n σ K) f94l5 M σ K
theorem f94t23L {ρ : Type} (N : Nat) (K : KT ρ) : ∀ (M : Nat) (v4 v6 v7 : LI) (v5 v8 v1_0 v1_1 : Int) (v1_2 : LI), f94w23 N M (f94s5 v4 v6 v7 v5 v8 v1_0 v1_1 v1_2) K =
  spec_l1Factors.Z23L N (fun v4 v6 v7 v5 v1_0 v1_1 v1_2 => K (.exit 2) (f94s4 v4 v6 v7 v5 v1_0 v1_1 v1_2)) M v4 v6 v7 v5 v8 v1_0 v1_1 v1_2
  | 0, _, _, _, _, _, _, _, _ => rfl
  | M + 1, v4, v6, v7, v5, v8, v1_0, v1_1, v1_2 => viaRoundS (fun k => spec_l1Factors.Z24 N v4 v6 v7 v5 v8 v1_0 v1_1 v1_2 k (fun v4 v6 v7 v5 v1_0 v1_1 v1_2 => K (.exit 2) (f94s4 v4 v6 v7 v5 v1_0 v1_1 v1_2))) (f94t24 N (K := seqK (fun σ => f94w23 N M σ K) K) ..) (fx8 fun v4 v6 v7 v5 v8 v1_0 v1_1 v1_2 => f94t23L N K M v4 v6 v7 v5 v8 v1_0 v1_1 v1_2) (by kernel_rfl)
theorem f94t23 N v4 v6 v7 v5 v8 v1_0 v1_1 v1_2 (K : KT ρ) : f94i N (f94c 44619) f94p23 (f94s5 v4 v6 v7 v5 v8 v1_0 v1_1 v1_2) (joinK (some f94l4) K) =
  spec_l1Factors.Z23 N v4 v6 v7 v5 v8 v1_0 v1_1 v1_2 (fun v4 v6 v7 v5 v1_0 v1_1 v1_2 => K (.exit 2) (f94s4 v4 v6 v7 v5 v1_0 v1_1 v1_2)) :=
 viaLoopS (by kernel_rfl) (f94t23L N (joinK (some f94l4) K) N v4 v6 v7 v5 v8 v1_0 v1_1 v1_2) (by kernel_rfl)
noncomputable def f94p22 : Plan := .mk (some f94l4) none f94p23 .n
theorem f94t22 N v4 v6 v7 v5 v8 v1_0 v1_1 v1_2 (K : KT ρ) : f94i N (f94c 28235) f94p22 (f94s5 v4 v6 v7 v5 v8 v1_0 v1_1 v1_2) (joinK (some f94l4) K) =
  spec_l1Factors.Z22 N v4 v6 v7 v5 v8 v1_0 v1_1 v1_2 (fun v4 v6 v7 v5 v1_0 v1_1 v1_2 => K .nrm (f94s4 v4 v6 v7 v5 v1_0 v1_1 v1_2)) :=
 viaBlockS (by kernel_rfl) (f94t23 N (K := blockK 2 (joinK (some f94l4) K)) ..) (by kernel_rfl)
noncomputable def f94p20 : Plan := .mk (some f94l5) none .n f94p22
theorem f94t20 N v4 v6 v7 v5 v1_0 v1_1 v1_2 (K : KT ρ) : f94i N (f94c 11851) f94p20 (f94s4 v4 v6 v7 v5 v1_0 v1_1 v1_2) (joinK (some f94l4) K) =
  spec_l1Factors.Z20 N v4 v6 v7 v5 v1_0 v1_1 v1_2 (fun v4 v6 v7 v5 v1_0 v1_1 v1_2 => K .nrm (f94s4 v4 v6 v7 v5 v1_0 v1_1 v1_2)) :=
 viaSeqS (fun k => spec_l1Factors.Z21 N v4 v6 v7 v5 v1_0 v1_1 v1_2 k) (by kernel_rfl) (f94t21 N (K := seqK (fun σ => f94i N (f94c 28235) f94p22 σ (joinK (some f94l4) K)) (joinK (some f94l4) K)) ..) (fx8 fun v4 v6 v7 v5 v8 v1_0 v1_1 v1_2 => f94t22 N v4 v6 v7 v5 v8 v1_0 v1_1 v1_2 K) (by kernel_rfl)
theorem f94t26 N v4 v6 v7 v5 v1_0 v1_1 v1_2 (K : KT ρ) : f94i N (f94c 24139) .n (f94s4 v4 v6 v7 v5 v1_0 v1_1 v1_2) (joinK (some f94l6) K) =
  spec_l1Factors.Z26 N v4 v6 v7 v5 v1_0 v1_1 v1_2 (fun v4 v6 v7 v5 v9 v1_0 v1_1 v1_2 => K .nrm (f94s6 v4 v6 v7 v5 v9 v1_0 v1_1 v1_2)) := by kernel_rfl
theorem f94t29 N v4 v6 v7 v5 v9 v1_0 v1_1 v1_2 (K : KT ρ) : f94i N (f94c 81483) .n (f94s6 v4 v6 v7 v5 v9 v1_0 v1_1 v1_2) (joinK (some f94l7) K) =
  spec_l1Factors.Z29 N v4 v6 v7 v5 v9 v1_0 v1_1 v1_2 (fun v4 v6 v7 v5 v9 v10 v1_0 v1_1 v1_2 => K .nrm (f94s7 v4 v6 v7 v5 v9 v10 v1_0 v1_1 v1_2)) := by kernel_rfl
theorem f94t32 N v4 v6 v7 v5 v9 v10 v1_0 v1_1 v1_2 (K : KT ρ) : f94i N (f94c 310859) .n (f94s7 v4 v6 v7 v5 v9 v10 v1_0 v1_1 v1_2) (joinK (some f94l7) K) =
  spec_l1Factors.Z32 N v4 v6 v7 v5 v9 v10 v1_0 v1_1 v1_2 (fun v4 v6 v7 v5 v9 v10 v1_0 v1_1 v1_2 => K .nrm (f94s7 v4 v6 v7 v5 v9 v10 v1_0 v1_1 v1_2)) (fun v4 v6 v5 v9 v1_0 v1_1 v1_2 => K (.exit 4) (f94s8 v4 v6 v5 v9 v1_0 v1_1 v1_2)) := by kernel_rfl
noncomputable def f94p31 : Plan := .mk none (some f94l7) .n .n
noncomputable abbrev f94w31 {ρ : Type} (N M : Nat) (σ : St) (K : KT ρ) : Option ρ := loopC (fun σ K => f94i N (f94c 310859) .n σ K) f94l7 M σ K
theorem f94t31L {ρ : Type} (N : Nat) (K : KT ρ) : ∀ (M : Nat) (v4 v6 v7 : LI) (v5 v9 v10 v1_0 v1_1 : Int) (v1_2 : LI), f94w31 N M (f94s7 v4 v6 v7 v5 v9 v10 v1_0 v1_1 v1_2) K =
  spec_l1Factors.Z31L N (fun v4 v6 v5 v9 v1_0 v1_1 v1_2 => K (.exit 4) (f94s8 v4 v6 v5 v9 v1_0 v1_1 v1_2)) M v4 v6 v7 v5 v9 v10 v1_0 v1_1 v1_2
  | 0, _, _, _, _, _, _, _, _, _ => rfl
  | M + 1, v4, v6, v7, v5, v9, v10, v1_0, v1_1, v1_2 => viaRoundS (fun k => spec_l1Factors.Z32 N v4 v6 v7 v5 v9 v10 v1_0 v1_1 v1_2 k (fun v4 v6 v5 v9 v1_0 v1_1 v1_2 => K (.exit 4) (f94s8 v4 v6 v5 v9 v1_0 v1_1 v1_2))) (f94t32 N (K := seqK (fun σ => f94w31 N M σ K) K) ..) (fx9 fun v4 v6 v7 v5 v9 v10 v1_0 v1_1 v1_2 => f94t31L N K M v4 v6 v7 v5 v9 v10 v1_0 v1_1 v1_2) (by kernel_rfl)
theorem f94t31 N v4 v6 v7 v5 v9 v10 v1_0 v1_1 v1_2 (K : KT ρ) : f94i N (f94c 179787) f94p31 (f94s7 v4 v6 v7 v5 v9 v10 v1_0 v1_1 v1_2) (joinK (some f94l8) K) =
  spec_l1Factors.Z31 N v4 v6 v7 v5 v9 v10 v1_0 v1_1 v1_2 (fun v4 v6 v5 v9 v1_0 v1_1 v1_2 => K (.exit 4) (f94s8 v4 v6 v5 v9 v1_0 v1_1 v1_2)) :=
 viaLoopS (by kernel_rfl) (f94t31L N (joinK (some f94l8) K) N v4 v6 v7 v5 v9 v10 v1_0 v1_1 v1_2) (by kernel_rfl)
noncomputable def f94p30 : Plan := .mk (some f94l8) none f94p31 .n
theorem f94t30 N v4 v6 v7 v5 v9 v10 v1_0 v1_1 v1_2 (K : KT ρ) : f94i N (f94c 114251) f94p30 (f94s7 v4 v6 v7 v5 v9 v10 v1_0 v1_1 v1_2) (joinK (some f94l8) K) =
  spec_l1Factors.Z30 N v4 v6 v7 v5 v9 v10 v1_0 v1_1 v1_2 (fun v4 v6 v5 v9 v1_0 v1_1 v1_2 => K .nrm (f94s8 v4 v6 v5 v9 v1_0 v1_1 v1_2)) :=
 viaBlockS (by kernel_rfl) (f94t31 N (K := blockK 4 (joinK (some f94l8) K)) ..) (by kernel_rfl)
noncomputable def f94p28 : Plan := .mk (some f94l7) none .n f94p30
theorem f94t28 N v4 v6 v7 v5 v9 v1_0 v1_1 v1_2 (K : KT ρ) : f94i N (f94c 48715) f94p28 (f94s6 v4 v6 v7 v5 v9 v1_0 v1_1 v1_2) (joinK (some f94l8) K) =
  spec_l1Factors.Z28 N v4 v6 v7 v5 v9 v1_0 v1_1 v1_2 (fun v4 v6 v5 v9 v1_0 v1_1 v1_2 => K .nrm (f94s8 v4 v6 v5 v9 v1_0 v1_1 v1_2)) :=
 viaSeqS (fun k => spec_l1Factors.Z29 N v4 v6 v7 v5 v9 v1_0 v1_1 v1_2 k) (by kernel_rfl) (f94t29 N (K := seqK (fun σ => f94i N (f94c 114251) f94p30 σ (joinK (some f94l8) K)) (joinK (some f94l8) K)) ..) (fx9 fun v4 v6 v7 v5 v9 v10 v1_0 v1_1 v1_2 => f94t30 N v4 v6 v7 v5 v9 v10 v1_0 v1_1 v1_2 K) (by kernel_rfl)
theorem f94t34 N v4 v6 v5 v9 v1_0 v1_1 v1_2 (K : KT ρ) : f94i N (f94c 97867) .n (f94s8 v4 v6 v5 v9 v1_0 v1_1 v1_2) (joinK (some f94l9) K) =
  spec_l1Factors.Z34 N v4 v6 v5 v9 v1_0 v1_1 v1_2 (fun v4 v6 v5 v9 v11 v1_0 v1_1 v1_2 => K .nrm (f94s9 v4 v6 v5 v9 v11 v1_0 v1_1 v1_2)) := by kernel_rfl
theorem f94t37 N v4 v6 v5 v9 v11 v1_0 v1_1 v1_2 (K : KT ρ) : f94i N (f94c 327243) .n (f94s9 v4 v6 v5 v9 v11 v1_0 v1_1 v1_2) (joinK (some f94l9) K) =
  spec_l1Factors.Z37 N v4 v6 v5 v9 v11 v1_0 v1_1 v1_2 (fun v4 v6 v5 v9 v11 v1_0 v1_1 v1_2 => K .nrm (f94s9 v4 v6 v5 v9 v11 v1_0 v1_1 v1_2)) (fun v4 v5 v1_0 v1_1 v1_2 => K (.exit 6) (f94s3 v4 v5 v1_0 v1_1 v1_2)) := by kernel_rfl
noncomputable def f94p36 : Plan := .mk none (some f94l9) .n .n
noncomputable abbrev f94w36 {ρ : Type} (N M : Nat) (σ : St) (K : KT ρ) : Option ρ := loopC (fun σ K => f94i N (f94c 327243) .n σ K) f94l9 M σ K
theorem f94t36L {ρ : Type} (N : Nat) (K : KT ρ) : ∀ (M : Nat) (v4 v6 : LI) (v5 v9 v11 v1_0 v1_1 : Int) (v1_2 : LI), f94w36 N M (f94s9 v4 v6 v5 v9 v11 v1_0 v1_1 v1_2) K =
  spec_l1Factors.Z36L N (fun v4 v5 v1_0 v1_1 v1_2 => K (.exit 6) (f94s3 v4 v5 v1_0 v1_1 v1_2)) M v4 v6 v5 v9 v11 v1_0 v1_1 v1_2
  | 0, _, _, _, _, _, _, _, _ => rfl
  | M + 1, v4, v6, v5, v9, v11, v1_0, v1_1, v1_2 => viaRoundS (fun k => spec_l1Factors.Z37 N v4 v6 v5 v9 v11 v1_0 v1_1 v1_2 k (fun v4 v5 v1_0 v1_1 v1_2 => K (.exit 6) (f94s3 v4 v5 v1_0 v1_1 v1_2))) (f94t37 N (K := seqK (fun σ => f94w36 N M σ K) K) ..) (fx8 fun v4 v6 v5 v9 v11 v1_0 v1_1 v1_2 => f94t36L N K M v4 v6 v5 v9 v11 v1_0 v1_1 v1_2) (by kernel_rfl)
theorem f94t36 N v4 v6 v5 v9 v11 v1_0 v1_1 v1_2 (K : KT ρ) : f94i N (f94c 196171) f94p36 (f94s9 v4 v6 v5 v9 v11 v1_0 v1_1 v1_2) (joinK (some f94l3) K) =
  spec_l1Factors.Z36 N v4 v6 v5 v9 v11 v1_0 v1_1 v1_2 (fun v4 v5 v1_0 v1_1 v1_2 => K (.exit 6) (f94s3 v4 v5 v1_0 v1_1 v1_2)) :=
 viaLoopS (by kernel_rfl) (f94t36L N (joinK (some f94l3) K) N v4 v6 v5 v9 v11 v1_0 v1_1 v1_2) (by kernel_rfl)
noncomputable def f94p35 : Plan := .mk (some f94l3) none f94p36 .n
theorem f94t35 N v4 v6 v5 v9 v11 v1_0 v1_1 v1_2 (K : KT ρ) : f94i N (f94c 130635) f94p35 (f94s9 v4 v6 v5 v9 v11 v1_0 v1_1 v1_2) (joinK (some f94l3) K) =
  spec_l1Factors.Z35 N v4 v6 v5 v9 v11 v1_0 v1_1 v1_2 (fun v4 v5 v1_0 v1_1 v1_2 => K .nrm (f94s3 v4 v5 v1_0 v1_1 v1_2)) :=
 viaBlockS (by kernel_rfl) (f94t36 N (K := blockK 6 (joinK (some f94l3) K)) ..) (by kernel_rfl)
noncomputable def f94p33 : Plan := .mk (some f94l9) none .n f94p35
theorem f94t33 N v4 v6 v5 v9 v1_0 v1_1 v1_2 (K : KT ρ) : f94i N (f94c 65099) f94p33 (f94s8 v4 v6 v5 v9 v1_0 v1_1 v1_2) (joinK (some f94l3) K) =
  spec_l1Factors.Z33 N v4 v6 v5 v9 v1_0 v1_1 v1_2 (fun v4 v5 v1_0 v1_1 v1_2 => K .nrm (f94s3 v4 v5 v1_0 v1_1 v1_2)) :=
 viaSeqS (fun k => spec_l1Factors.Z34 N v4 v6 v5 v9 v1_0 v1_1 v1_2 k) (by kernel_rfl) (f94t34 N (K := seqK (fun σ => f94i N (f94c 130635) f94p35 σ (joinK (some f94l3) K)) (joinK (some f94l3) K)) ..) (fx8 fun v4 v6 v5 v9 v11 v1_0 v1_1 v1_2 => f94t35 N v4 v6 v5 v9 v11 v1_0 v1_1 v1_2 K) (by kernel_rfl)
noncomputable def f94p27 : Plan := .mk (some f94l8) none f94p28 f94p33
theorem f94t27 N v4 v6 v7 v5 v9 v1_0 v1_1 v1_2 (K : KT ρ) : f94i N (f94c 32331) f94p27 (f94s6 v4 v6 v7 v5 v9 v1_0 v1_1 v1_2) (joinK (some f94l3) K) =
  spec_l1Factors.Z27 N v4 v6 v7 v5 v9 v1_0 v1_1 v1_2 (fun v4 v5 v1_0 v1_1 v1_2 => K .nrm (f94s3 v4 v5 v1_0 v1_1 v1_2)) :=
 viaSeqS (fun k => spec_l1Factors.Z28 N v4 v6 v7 v5 v9 v1_0 v1_1 v1_2 k) (by kernel_rfl) (f94t28 N (K := seqK (fun σ => f94i N (f94c 65099) f94p33 σ (joinK (some f94l3) K)) (joinK (some f94l3) K)) ..) (fx7 fun v4 v6 v5 v9 v1_0 v1_1 v1_2 => f94t33 N v4 v6 v5 v9 v1_0 v1_1 v1_2 K) (by kernel_rfl)
noncomputable def f94p25 : Plan := .mk (some f94l6) none .n f94p27
theorem f94t25 N v4 v6 v7 v5 v1_0 v1_1 v1_2 (K : KT ρ) : f94i N (f94c 15947) f94p25 (f94s4 v4 v6 v7 v5 v1_0 v1_1 v1_2) (joinK (some f94l3) K) =
  spec_l1Factors.Z25 N v4 v6 v7 v5 v1_0 v1_1 v1_2 (fun v4 v5 v1_0 v1_1 v1_2 => K .nrm (f94s3 v4 v5 v1_0 v1_1 v1_2)) :=
 viaSeqS (fun k => spec_l1Factors.Z26 N v4 v6 v7 v5 v1_0 v1_1 v1_2 k) (by kernel_rfl) (f94t26 N (K := seqK (fun σ => f94i N (f94c 32331) f94p27 σ (joinK (some f94l3) K)) (joinK (some f94l3) K)) ..) (fx8 fun v4 v6 v7 v5 v9 v1_0 v1_1 v1_2 => f94t27 N v4 v6 v7 v5 v9 v1_0 v1_1 v1_2 K) (by kernel_rfl)
noncomputable def f94p19 : Plan := .mk (some f94l4) none f94p20 f94p25
theorem f94t19 N v4 v6 v7 v5 v1_0 v1_1 v1_2 (K : KT ρ) : f94i N (f94c 7755) f94p19 (f94s4 v4 v6 v7 v5 v1_0 v1_1 v1_2) (joinK (some f94l3) K) =
  spec_l1Factors.Z19 N v4 v6 v7 v5 v1_0 v1_1 v1_2 (fun v4 v5 v1_0 v1_1 v1_2 => K .nrm (f94s3 v4 v5 v1_0 v1_1 v1_2)) :=
 viaSeqS (fun k => spec_l1Factors.Z20 N v4 v6 v7 v5 v1_0 v1_1 v1_2 k) (by kernel_rfl) (f94t20 N (K := seqK (fun σ => f94i N (f94c 15947) f94p25 σ (joinK (some f94l3) K)) (joinK (some f94l3) K)) ..) (fx7 fun v4 v6 v7 v5 v1_0 v1_1 v1_2 => f94t25 N v4 v6 v7 v5 v1_0 v1_1 v1_2 K) (by kernel_rfl)
noncomputable def f94p17 : Plan := .mk (some f94l4) none .n f94p19
theorem f94t17 N v4 v6 v7 v5 v1_0 v1_1 v1_2 (K : KT ρ) : f94i N (f94c 3659) f94p17 (f94s4 v4 v6 v7 v5 v1_0 v1_1 v1_2) (joinK (some f94l3) K) =
  spec_l1Factors.Z17 N v4 v6 v7 v5 v1_0 v1_1 v1_2 (fun v4 v5 v1_0 v1_1 v1_2 => K .nrm (f94s3 v4 v5 v1_0 v1_1 v1_2)) :=
 viaSeqS (fun k => spec_l1Factors.Z18 N v4 v6 v7 v5 v1_0 v1_1 v1_2 k) (by kernel_rfl) (f94t18 N (K := seqK (fun σ => f94i N (f94c 7755) f94p19 σ (joinK (some f94l3) K)) (joinK (some f94l3) K)) ..) (fx7 fun v4 v6 v7 v5 v1_0 v1_1 v1_2 => f94t19 N v4 v6 v7 v5 v1_0 v1_1 v1_2 K) (by kernel_rfl)
noncomputable def f94p15 : Plan := .mk (some f94l4) none .n f94p17
theorem f94t15 N v4 v5 v1_0 v1_1 v1_2 (K : KT ρ) : f94i N (f94c 1611) f94p15 (f94s3 v4 v5 v1_0 v1_1 v1_2) (joinK (some f94l3) K) =
  spec_l1Factors.Z15 N v4 v5 v1_0 v1_1 v1_2 (fun v4 v5 v1_0 v1_1 v1_2 => K .nrm (f94s3 v4 v5 v1_0 v1_1 v1_2)) :=
 viaSeqS (fun k => spec_l1Factors.Z16 N v4 v5 v1_0 v1_1 v1_2 k) (by kernel_rfl) (f94t16 N (K := seqK (fun σ => f94i N (f94c 3659) f94p17 σ (joinK (some f94l3) K)) (joinK (some f94l3) K)) ..) (fx7 fun v4 v6 v7 v5 v1_0 v1_1 v1_2 => f94t17 N v4 v6 v7 v5 v1_0 v1_1 v1_2 K) (by kernel_rfl)
noncomputable def f94p13 : Plan := .mk (some f94l3) none .n f94p15
theorem f94t13 N v4 v5 v1_0 v1_1 v1_2 (K : KT ρ) : f94i N (f94c 587) f94p13 (f94s3 v4 v5 v1_0 v1_1 v1_2) (joinK (some f94l3) K) =
  spec_l1Factors.Z13 N v4 v5 v1_0 v1_1 v1_2 (fun v4 v5 v1_0 v1_1 v1_2 => K .nrm (f94s3 v4 v5 v1_0 v1_1 v1_2)) (fun v4 v5 v1_0 v1_1 v1_2 => K (.exit 1) (f94s3 v4 v5 v1_0 v1_1 v1_2)) :=
 viaSeqS (fun k => spec_l1Factors.Z14 N v4 v5 v1_0 v1_1 v1_2 k (fun v4 v5 v1_0 v1_1 v1_2 => K (.exit 1) (f94s3 v4 v5 v1_0 v1_1 v1_2))) (by kernel_rfl) (f94t14 N (K := seqK (fun σ => f94i N (f94c 1611) f94p15 σ (joinK (some f94l3) K)) (joinK (some f94l3) K)) ..) (fx5 fun v4 v5 v1_0 v1_1 v1_2 => f94t15 N v4 v5 v1_0 v1_1 v1_2 K) (by kernel_rfl)
noncomputable def f94p12 : Plan := .mk (some f94l3) none f94p13 .n
theorem f94t12 N v4 v5 v1_0 v1_1 v1_2 (K : KT ρ) : f94i N (f94c 331) f94p12 (f94s3 v4 v5 v1_0 v1_1 v1_2) (joinK (some f94l3) K) =
  spec_l1Factors.Z12 N v4 v5 v1_0 v1_1 v1_2 (fun v4 v5 v1_0 v1_1 v1_2 => K .nrm (f94s3 v4 v5 v1_0 v1_1 v1_2)) :=
 viaBlockS (by kernel_rfl) (f94t13 N (K := blockK 1 (joinK (some f94l3) K)) ..) (by kernel_rfl)
theorem f94t38 N v4 v5 v1_0 v1_1 v1_2 (K : KT ρ) : f94i N (f94c 459) .n (f94s3 v4 v5 v1_0 v1_1 v1_2) (joinK (some f94l3) K) =
  spec_l1Factors.Z38 N v4 v5 v1_0 v1_1 v1_2 (fun v4 v5 v1_0 v1_1 v1_2 => K .nrm (f94s3 v4 v5 v1_0 v1_1 v1_2)) := by kernel_rfl
noncomputable def f94p11 : Plan := .mk (some f94l3) none f94p12 .n
theorem f94t11 N v4 v5 v1_0 v1_1 v1_2 (K : KT ρ) : f94i N (f94c 203) f94p11 (f94s3 v4 v5 v1_0 v1_1 v1_2) (joinK (some f94l3) K) =
  spec_l1Factors.Z11 N v4 v5 v1_0 v1_1 v1_2 (fun v4 v5 v1_0 v1_1 v1_2 => K .nrm (f94s3 v4 v5 v1_0 v1_1 v1_2)) :=
 viaSeqS (fun k => spec_l1Factors.Z12 N v4 v5 v1_0 v1_1 v1_2 k) (by kernel_rfl) (f94t12 N (K := seqK (fun σ => f94i N (f94c 459) .n σ (joinK (some f94l3) K)) (joinK (some f94l3) K)) ..) (fx5 fun v4 v5 v1_0 v1_1 v1_2 => f94t38 N v4 v5 v1_0 v1_1 v1_2 K) (by kernel_rfl)
noncomputable def f94p9 : Plan := .mk (some f94l3) none .n f94p11
theorem f94t9 N v4 v5 v1_0 v1_1 v1_2 (K : KT ρ) : f94i N (f94c 75) f94p9 (f94s3 v4 v5 v1_0 v1_1 v1_2) (joinK (some f94l3) K) =
  spec_l1Factors.Z9 N v4 v5 v1_0 v1_1 v1_2 (fun v4 v5 v1_0 v1_1 v1_2 => K .nrm (f94s3 v4 v5 v1_0 v1_1 v1_2)) (fun v4 v1_0 v1_1 v1_2 => K (.exit 0) (f94s2 v4 v1_0 v1_1 v1_2)) :=
 viaSeqS (fun k => spec_l1Factors.Z10 N v4 v5 v1_0 v1_1 v1_2 k (fun v4 v1_0 v1_1 v1_2 => K (.exit 0) (f94s2 v4 v1_0 v1_1 v1_2))) (by kernel_rfl) (f94t10 N (K := seqK (fun σ => f94i N (f94c 203) f94p11 σ (joinK (some f94l3) K)) (joinK (some f94l3) K)) ..) (fx5 fun v4 v5 v1_0 v1_1 v1_2 => f94t11 N v4 v5 v1_0 v1_1 v1_2 K) (by kernel_rfl)
noncomputable def f94p8 : Plan := .mk none (some f94l3) f94p9 .n
noncomputable abbrev f94w8 {ρ : Type} (N M : Nat) (σ : St) (K : KT ρ) : Option ρ := loopC (fun σ K => f94i N (f94c 75) f94p9 σ K) f94l3 M σ K
theorem f94t8L {ρ : Type} (N : Nat) (K : KT ρ) : ∀ (M : Nat) (v4 : LI) (v5 v1_0 v1_1 : Int) (v1_2 : LI), f94w8 N M (f94s3 v4 v5 v1_0 v1_1 v1_2) K =
  spec_l1Factors.Z8L N (fun v4 v1_0 v1_1 v1_2 => K (.exit 0) (f94s2 v4 v1_0 v1_1 v1_2)) M v4 v5 v1_0 v1_1 v1_2
  | 0, _, _, _, _, _ => rfl
  | M + 1, v4, v5, v1_0, v1_1, v1_2 => viaRoundS (fun k => spec_l1Factors.Z9 N v4 v5 v1_0 v1_1 v1_2 k (fun v4 v1_0 v1_1 v1_2 => K (.exit 0) (f94s2 v4 v1_0 v1_1 v1_2))) (f94t9 N (K := seqK (fun σ => f94w8 N M σ K) K) ..) (fx5 fun v4 v5 v1_0 v1_1 v1_2 => f94t8L N K M v4 v5 v1_0 v1_1 v1_2) (by kernel_rfl)
theorem f94t8 N v4 v5 v1_0 v1_1 v1_2 (K : KT ρ) : f94i N (f94c 43) f94p8 (f94s3 v4 v5 v1_0 v1_1 v1_2) (joinK (some f94l2) K) =
  spec_l1Factors.Z8 N v4 v5 v1_0 v1_1 v1_2 (fun v4 v1_0 v1_1 v1_2 => K (.exit 0) (f94s2 v4 v1_0 v1_1 v1_2)) :=
 viaLoopS (by kernel_rfl) (f94t8L N (joinK (some f94l2) K) N v4 v5 v1_0 v1_1 v1_2) (by kernel_rfl)
noncomputable def f94p7 : Plan := .mk (some f94l2) none f94p8 .n
theorem f94t7 N v4 v5 v1_0 v1_1 v1_2 (K : KT ρ) : f94i N (f94c 27) f94p7 (f94s3 v4 v5 v1_0 v1_1 v1_2) (joinK (some f94l2) K) =
  spec_l1Factors.Z7 N v4 v5 v1_0 v1_1 v1_2 (fun v4 v1_0 v1_1 v1_2 => K .nrm (f94s2 v4 v1_0 v1_1 v1_2)) :=
 viaBlockS (by kernel_rfl) (f94t8 N (K := blockK 0 (joinK (some f94l2) K)) ..) (by kernel_rfl)
noncomputable def f94p5 : Plan := .mk (some f94l3) none .n f94p7
theorem f94t5 N v4 v1_0 v1_1 v1_2 (K : KT ρ) : f94i N (f94c 11) f94p5 (f94s2 v4 v1_0 v1_1 v1_2) (joinK (some f94l2) K) =
  spec_l1Factors.Z5 N v4 v1_0 v1_1 v1_2 (fun v4 v1_0 v1_1 v1_2 => K .nrm (f94s2 v4 v1_0 v1_1 v1_2)) :=
 viaSeqS (fun k => spec_l1Factors.Z6 N v4 v1_0 v1_1 v1_2 k) (by kernel_rfl) (f94t6 N (K := seqK (fun σ => f94i N (f94c 27) f94p7 σ (joinK (some f94l2) K)) (joinK (some f94l2) K)) ..) (fx5 fun v4 v5 v1_0 v1_1 v1_2 => f94t7 N v4 v5 v1_0 v1_1 v1_2 K) (by kernel_rfl)
theorem f94t41 N v4 v1_0 v1_1 v1_2 (K : KT ρ) : f94i N (f94c 39) .n (f94s2 v4 v1_0 v1_1 v1_2) (joinK (some f94l10) K) =
  spec_l1Factors.Z41 N v4 v1_0 v1_1 v1_2 (fun v4 v12 v1_0 v1_1 v1_2 => K .nrm (f94s10 v4 v12 v1_0 v1_1 v1_2)) := by kernel_rfl
theorem f94t45 N v4 v12 v1_0 v1_1 v1_2 (K : KT ρ) : f94i N (f94c 279) .n (f94s10 v4 v12 v1_0 v1_1 v1_2) (joinK (some f94l10) K) =
  spec_l1Factors.Z45 N v4 v12 v1_0 v1_1 v1_2 (fun v4 v12 v1_0 v1_1 v1_2 => K .nrm (f94s10 v4 v12 v1_0 v1_1 v1_2)) (fun v4 => K (.exit 8) (f94s12 v4)) := by kernel_rfl
theorem f94t49 N v4 v12 v1_0 v1_1 v1_2 (K : KT ρ) : f94i N (f94c 2199) .n (f94s10 v4 v12 v1_0 v1_1 v1_2) (joinK (some f94l11) K) =
  spec_l1Factors.Z49 N v4 v12 v1_0 v1_1 v1_2 (fun v4 v12 v13 v1_0 v1_1 v1_2 => K .nrm (f94s11 v4 v12 v13 v1_0 v1_1 v1_2)) := by kernel_rfl
theorem f94t52 N v4 v12 v13 v1_0 v1_1 v1_2 (K : KT ρ) : f94i N (f94c 9367) .n (f94s11 v4 v12 v13 v1_0 v1_1 v1_2) (joinK (some f94l11) K) =
  spec_l1Factors.Z52 N v4 v12 v13 v1_0 v1_1 v1_2 (fun v4 v12 v13 v1_0 v1_1 v1_2 => K .nrm (f94s11 v4 v12 v13 v1_0 v1_1 v1_2)) (fun v4 v12 v1_0 v1_1 v1_2 => K (.exit 10) (f94s10 v4 v12 v1_0 v1_1 v1_2)) (fun v2 v3 => K .ret (f94s13 v2 v3)) := by kernel_rfl
noncomputable def f94p51 : Plan := .mk none (some f94l11) .n .n
noncomputable abbrev f94w51 {ρ : Type} (N M : Nat) (σ : St) (K : KT ρ) : Option ρ := loopC (fun σ K => f94i N (f94c 9367) .n σ K) f94l11 M σ K
theorem f94t51L {ρ : Type} (N : Nat) (K : KT ρ) : ∀ (M : Nat) (v4 : LI) (v12 v13 v1_0 v1_1 : Int) (v1_2 : LI), f94w51 N M (f94s11 v4 v12 v13 v1_0 v1_1 v1_2) K =
  spec_l1Factors.Z51L N (fun v4 v12 v1_0 v1_1 v1_2 => K (.exit 10) (f94s10 v4 v12 v1_0 v1_1 v1_2)) (fun v2 v3 => K .ret (f94s13 v2 v3)) M v4 v12 v13 v1_0 v1_1 v1_2
  | 0, _, _, _, _, _, _ => rfl
  | M + 1, v4, v12, v13, v1_0, v1_1, v1_2 => viaRoundS (fun k => spec_l1Factors.Z52 N v4 v12 v13 v1_0 v1_1 v1_2 k (fun v4 v12 v1_0 v1_1 v1_2 => K (.exit 10) (f94s10 v4 v12 v1_0 v1_1 v1_2)) (fun v2 v3 => K .ret (f94s13 v2 v3))) (f94t52 N (K := seqK (fun σ => f94w51 N M σ K) K) ..) (fx6 fun v4 v12 v13 v1_0 v1_1 v1_2 => f94t51L N K M v4 v12 v13 v1_0 v1_1 v1_2) (by kernel_rfl)
theorem f94t51 N v4 v12 v13 v1_0 v1_1 v1_2 (K : KT ρ) : f94i N (f94c 5271) f94p51 (f94s11 v4 v12 v13 v1_0 v1_1 v1_2) (joinK (some f94l10) K) =
  spec_l1Factors.Z51 N v4 v12 v13 v1_0 v1_1 v1_2 (fun v4 v12 v1_0 v1_1 v1_2 => K (.exit 10) (f94s10 v4 v12 v1_0 v1_1 v1_2)) (fun v2 v3 => K .ret (f94s13 v2 v3)) :=
 viaLoopS (by kernel_rfl) (f94t51L N (joinK (some f94l10) K) N v4 v12 v13 v1_0 v1_1 v1_2) (by kernel_rfl)
noncomputable def f94p50 : Plan := .mk (some f94l10) none f94p51 .n
theorem f94t50 N v4 v12 v13 v1_0 v1_1 v1_2 (K : KT ρ) : f94i N (f94c 3223) f94p50 (f94s11 v4 v12 v13 v1_0 v1_1 v1_2) (joinK (some f94l10) K) =
  spec_l1Factors.Z50 N v4 v12 v13 v1_0 v1_1 v1_2 (fun v4 v12 v1_0 v1_1 v1_2 => K .nrm (f94s10 v4 v12 v1_0 v1_1 v1_2)) (fun v2 v3 => K .ret (f94s13 v2 v3)) :=
 viaBlockS (by kernel_rfl) (f94t51 N (K := blockK 10 (joinK (some f94l10) K)) ..) (by kernel_rfl)
noncomputable def f94p48 : Plan := .mk (some f94l11) none .n f94p50
theorem f94t48 N v4 v12 v1_0 v1_1 v1_2 (K : KT ρ) : f94i N (f94c 1175) f94p48 (f94s10 v4 v12 v1_0 v1_1 v1_2) (joinK (some f94l10) K) =
  spec_l1Factors.Z48 N v4 v12 v1_0 v1_1 v1_2 (fun v4 v12 v1_0 v1_1 v1_2 => K .nrm (f94s10 v4 v12 v1_0 v1_1 v1_2)) (fun v2 v3 => K .ret (f94s13 v2 v3)) :=
 viaSeqS (fun k => spec_l1Factors.Z49 N v4 v12 v1_0 v1_1 v1_2 k) (by kernel_rfl) (f94t49 N (K := seqK (fun σ => f94i N (f94c 3223) f94p50 σ (joinK (some f94l10) K)) (joinK (some f94l10) K)) ..) (fx6 fun v4 v12 v13 v1_0 v1_1 v1_2 => f94t50 N v4 v12 v13 v1_0 v1_1 v1_2 K) (by kernel_rfl)
noncomputable def f94p47 : Plan := .mk (some f94l10) none f94p48 .n
theorem f94t47 N v4 v12 v1_0 v1_1 v1_2 (K : KT ρ) : f94i N (f94c 663) f94p47 (f94s10 v4 v12 v1_0 v1_1 v1_2) (joinK (some f94l10) K) =
  spec_l1Factors.Z47 N v4 v12 v1_0 v1_1 v1_2 (fun v4 v12 v1_0 v1_1 v1_2 => K .nrm (f94s10 v4 v12 v1_0 v1_1 v1_2)) (fun v2 v3 => K .ret (f94s13 v2 v3)) :=
 viaBlockS (by kernel_rfl) (f94t48 N (K := blockK 9 (joinK (some f94l10) K)) ..) (by kernel_rfl)
theorem f94t53 N v4 v12 v1_0 v1_1 v1_2 (K : KT ρ) : f94i N (f94c 919) .n (f94s10 v4 v12 v1_0 v1_1 v1_2) (joinK (some f94l10) K) =
  spec_l1Factors.Z53 N v4 v12 v1_0 v1_1 v1_2 (fun v4 v12 v1_0 v1_1 v1_2 => K .nrm (f94s10 v4 v12 v1_0 v1_1 v1_2)) := by kernel_rfl
noncomputable def f94p46 : Plan := .mk (some f94l10) none f94p47 .n
theorem f94t46 N v4 v12 v1_0 v1_1 v1_2 (K : KT ρ) : f94i N (f94c 407) f94p46 (f94s10 v4 v12 v1_0 v1_1 v1_2) (joinK (some f94l10) K) =
  spec_l1Factors.Z46 N v4 v12 v1_0 v1_1 v1_2 (fun v4 v12 v1_0 v1_1 v1_2 => K .nrm (f94s10 v4 v12 v1_0 v1_1 v1_2)) (fun v2 v3 => K .ret (f94s13 v2 v3)) :=
 viaSeqS (fun k => spec_l1Factors.Z47 N v4 v12 v1_0 v1_1 v1_2 k (fun v2 v3 => K .ret (f94s13 v2 v3))) (by kernel_rfl) (f94t47 N (K := seqK (fun σ => f94i N (f94c 919) .n σ (joinK (some f94l10) K)) (joinK (some f94l10) K)) ..) (fx5 fun v4 v12 v1_0 v1_1 v1_2 => f94t53 N v4 v12 v1_0 v1_1 v1_2 K) (by kernel_rfl)
noncomputable def f94p44 : Plan := .mk (some f94l10) none .n f94p46
theorem f94t44 N v4 v12 v1_0 v1_1 v1_2 (K : KT ρ) : f94i N (f94c 151) f94p44 (f94s10 v4 v12 v1_0 v1_1 v1_2) (joinK (some f94l10) K) =
  spec_l1Factors.Z44 N v4 v12 v1_0 v1_1 v1_2 (fun v4 v12 v1_0 v1_1 v1_2 => K .nrm (f94s10 v4 v12 v1_0 v1_1 v1_2)) (fun v4 => K (.exit 8) (f94s12 v4)) (fun v2 v3 => K .ret (f94s13 v2 v3)) :=
 viaSeqS (fun k => spec_l1Factors.Z45 N v4 v12 v1_0 v1_1 v1_2 k (fun v4 => K (.exit 8) (f94s12 v4))) (by kernel_rfl) (f94t45 N (K := seqK (fun σ => f94i N (f94c 407) f94p46 σ (joinK (some f94l10) K)) (joinK (some f94l10) K)) ..) (fx5 fun v4 v12 v1_0 v1_1 v1_2 => f94t46 N v4 v12 v1_0 v1_1 v1_2 K) (by kernel_rfl)
noncomputable def f94p43 : Plan := .mk none (some f94l10) f94p44 .n
noncomputable abbrev f94w43 {ρ : Type} (N M : Nat) (σ : St) (K : KT ρ) : Option ρ := loopC (fun σ K => f94i N (f94c 151) f94p44 σ K) f94l10 M σ K
theorem f94t43L {ρ : Type} (N : Nat) (K : KT ρ) : ∀ (M : Nat) (v4 : LI) (v12 v1_0 v1_1 : Int) (v1_2 : LI), f94w43 N M (f94s10 v4 v12 v1_0 v1_1 v1_2) K =
  spec_l1Factors.Z43L N (fun v4 => K (.exit 8) (f94s12 v4)) (fun v2 v3 => K .ret (f94s13 v2 v3)) M v4 v12 v1_0 v1_1 v1_2
  | 0, _, _, _, _, _ => rfl
  | M + 1, v4, v12, v1_0, v1_1, v1_2 => viaRoundS (fun k => spec_l1Factors.Z44 N v4 v12 v1_0 v1_1 v1_2 k (fun v4 => K (.exit 8) (f94s12 v4)) (fun v2 v3 => K .ret (f94s13 v2 v3))) (f94t44 N (K := seqK (fun σ => f94w43 N M σ K) K) ..) (fx5 fun v4 v12 v1_0 v1_1 v1_2 => f94t43L N K M v4 v12 v1_0 v1_1 v1_2) (by kernel_rfl)
theorem f94t43 N v4 v12 v1_0 v1_1 v1_2 (K : KT ρ) : f94i N (f94c 87) f94p43 (f94s10 v4 v12 v1_0 v1_1 v1_2) (joinK (some f94l12) K) =
  spec_l1Factors.Z43 N v4 v12 v1_0 v1_1 v1_2 (fun v4 => K (.exit 8) (f94s12 v4)) (fun v2 v3 => K .ret (f94s13 v2 v3)) :=
 viaLoopS (by kernel_rfl) (f94t43L N (joinK (some f94l12) K) N v4 v12 v1_0 v1_1 v1_2) (by kernel_rfl)
noncomputable def f94p42 : Plan := .mk (some f94l12) none f94p43 .n
theorem f94t42 N v4 v12 v1_0 v1_1 v1_2 (K : KT ρ) : f94i N (f94c 55) f94p42 (f94s10 v4 v12 v1_0 v1_1 v1_2) (joinK (some f94l12) K) =
  spec_l1Factors.Z42 N v4 v12 v1_0 v1_1 v1_2 (fun v4 => K .nrm (f94s12 v4)) (fun v2 v3 => K .ret (f94s13 v2 v3)) :=
 viaBlockS (by kernel_rfl) (f94t43 N (K := blockK 8 (joinK (some f94l12) K)) ..) (by kernel_rfl)
noncomputable def f94p40 : Plan := .mk (some f94l10) none .n f94p42
theorem f94t40 N v4 v1_0 v1_1 v1_2 (K : KT ρ) : f94i N (f94c 23) f94p40 (f94s2 v4 v1_0 v1_1 v1_2) (joinK (some f94l12) K) =
  spec_l1Factors.Z40 N v4 v1_0 v1_1 v1_2 (fun v4 => K .nrm (f94s12 v4)) (fun v2 v3 => K .ret (f94s13 v2 v3)) :=
 viaSeqS (fun k => spec_l1Factors.Z41 N v4 v1_0 v1_1 v1_2 k) (by kernel_rfl) (f94t41 N (K := seqK (fun σ => f94i N (f94c 55) f94p42 σ (joinK (some f94l12) K)) (joinK (some f94l12) K)) ..) (fx5 fun v4 v12 v1_0 v1_1 v1_2 => f94t42 N v4 v12 v1_0 v1_1 v1_2 K) (by kernel_rfl)
theorem f94t54 N v4 (K : KT ρ) : f94i N (f94c 31) .n (f94s12 v4) (joinK (some f94lE) K) =
  spec_l1Factors.Z54 N v4 (fun v2 v3 => K .ret (f94s13 v2 v3)) := by kernel_rfl
noncomputable def f94p39 : Plan := .mk (some f94l12) none f94p40 .n
theorem f94t39 N v4 v1_0 v1_1 v1_2 (K : KT ρ) : f94i N (f94c 15) f94p39 (f94s2 v4 v1_0 v1_1 v1_2) (joinK (some f94lE) K) =
  spec_l1Factors.Z39 N v4 v1_0 v1_1 v1_2 (fun v2 v3 => K .ret (f94s13 v2 v3)) :=
 viaSeqS (fun k => spec_l1Factors.Z40 N v4 v1_0 v1_1 v1_2 k (fun v2 v3 => K .ret (f94s13 v2 v3))) (by kernel_rfl) (f94t40 N (K := seqK (fun σ => f94i N (f94c 31) .n σ (joinK (some f94lE) K)) (joinK (some f94lE) K)) ..) (funext fun v4 => f94t54 N v4 K) (by kernel_rfl)
noncomputable def f94p4 : Plan := .mk (some f94l2) none f94p5 f94p39
theorem f94t4 N v4 v1_0 v1_1 v1_2 (K : KT ρ) : f94i N (f94c 7) f94p4 (f94s2 v4 v1_0 v1_1 v1_2) (joinK (some f94lE) K) =
  spec_l1Factors.Z4 N v4 v1_0 v1_1 v1_2 (fun v2 v3 => K .ret (f94s13 v2 v3)) :=
 viaSeqS (fun k => spec_l1Factors.Z5 N v4 v1_0 v1_1 v1_2 k) (by kernel_rfl) (f94t5 N (K := seqK (fun σ => f94i N (f94c 15) f94p39 σ (joinK (some f94lE) K)) (joinK (some f94lE) K)) ..) (fx4 fun v4 v1_0 v1_1 v1_2 => f94t39 N v4 v1_0 v1_1 v1_2 K) (by kernel_rfl)
noncomputable def f94p2 : Plan := .mk (some f94l2) none .n f94p4
theorem f94t2 N v1_0 v1_1 v1_2 (K : KT ρ) : f94i N (f94c 3) f94p2 (f94s1 v1_0 v1_1 v1_2) (joinK (some f94lE) K) =
  spec_l1Factors.Z2 N v1_0 v1_1 v1_2 (fun v2 v3 => K .ret (f94s13 v2 v3)) :=
 viaSeqS (fun k => spec_l1Factors.Z3 N v1_0 v1_1 v1_2 k) (by kernel_rfl) (f94t3 N (K := seqK (fun σ => f94i N (f94c 7) f94p4 σ (joinK (some f94lE) K)) (joinK (some f94lE) K)) ..) (fx4 fun v4 v1_0 v1_1 v1_2 => f94t4 N v4 v1_0 v1_1 v1_2 K) (by kernel_rfl)
noncomputable def f94p0 : Plan := .mk (some f94l1) none .n f94p2
theorem f94t0 N v0 (K : KT ρ) : f94i N (f94c 1) f94p0 (f94s0 v0) (joinK (some f94lE) K) =
  spec_l1Factors.Z0 N v0 (fun v2 v3 => K .ret (f94s13 v2 v3)) :=
 viaSeqS (fun k => spec_l1Factors.Z1 N v0 k) (by kernel_rfl) (f94t1 N (K := seqK (fun σ => f94i N (f94c 3) f94p2 σ (joinK (some f94lE) K)) (joinK (some f94lE) K)) ..) (fx3 fun v1_0 v1_1 v1_2 => f94t2 N v1_0 v1_1 v1_2 K) (by kernel_rfl)
theorem f94m (N : Nat) (v0 : MT) : f94i N (f94c 1) f94p0 (f94s0 v0) (joinK (some f94lE) (finK tab f94sig Try.f94.results.toList)) = spec_l1Factors.Z0 N v0 (fun v2 v3 => some ((), (v2, (v3, ())))) :=
  (f94t0 N v0 (finK tab f94sig Try.f94.results.toList)).trans (by kernel_rfl)
theorem f94ok (h : spec_l1Factors.Spec) : EntryOk Try.prog 94 e94 :=
  entry_of_code (sig := f94sig) (c := (f94c 1)) (pl := f94p0) (je := (some f94lE)) (B := f94B) Try.func94 (by kernel_rfl) (by kernel_rfl) (by kernel_rfl) tabOk f94GOk (by kernel_rfl) (by kernel_rfl) (by kernel_rfl) (by kernel_rfl) fun X hb hp => by
    obtain ⟨v0, _⟩ := X
    obtain ⟨N, h⟩ := h v0 hb.1 hp
    exact ⟨N, (f94m N v0).trans (h N (Nat.le_refl N))⟩
theorem e94ok : EntryOk Try.prog 94 e94 := f94ok spec_l1Factors.ok
end Go.Fw
namespace Go.Fw
variable {ρ : Type}
open Go.Proofs
noncomputable def f51sig : Sig := ⟨[⟨.pair (.int .i64) (.pair (.int .i64) (.sl 3 (.int .i64))), true, false⟩], [⟨.bool, false, false⟩]⟩
noncomputable def e51 : Entry := ⟨f51sig, none, fun X => ((), ((spec_MatrixOk.g X.1), ()))⟩
noncomputable def f51G : Gm := addG (addG emptyG 74 e74) 94 e94
theorem f51GOk : GOk Try.prog f51G := ((GOk.nil).add e74ok (by kernel_rfl)).add e94ok (by kernel_rfl)
noncomputable def f51lE : Clean := ⟨[], [], [], [], []⟩
noncomputable def f51s0 (v0 : MT) : St := initSt f51sig.ps (v0, ())
noncomputable def f51s1 (v2 : Bool) : St := stOf [(2, xB v2)] [] []
noncomputable def f51l1 : Clean := ⟨[2], [], [], [], []⟩
noncomputable def f51B : Nat → Option Clean := lookL [(1000000, f51l1)]
noncomputable abbrev f51i {ρ : Type} (N : Nat) (c : Code) (p : Plan) (σ : St) (K : KT ρ) : Option ρ := iCode f51G tab f51B N c p σ K
noncomputable def f51c (n : Nat) : Code := codeN 99 (bodyOf Try.f51) n
theorem f51t0 N v0 (K : KT ρ) : f51i N (f51c 1) .n (f51s0 v0) (joinK (some f51lE) K) =
  spec_MatrixOk.Z0 N v0 (fun v2 => K .ret (f51s1 v2)) := by kernel_rfl
theorem f51m (N : Nat) (v0 : MT) : f51i N (f51c 1) .n (f51s0 v0) (joinK (some f51lE) (finK tab f51sig Try.f51.results.toList)) = spec_MatrixOk.Z0 N v0 (fun v2 => some ((), (v2, ()))) :=
  (f51t0 N v0 (finK tab f51sig Try.f51.results.toList)).trans (by kernel_rfl)
theorem f51ok (h : spec_MatrixOk.Spec) : EntryOk Try.prog 51 e51 :=
  entry_of_code (sig := f51sig) (c := (f51c 1)) (pl := .n) (je := (some f51lE)) (B := f51B) Try.func51 (by kernel_rfl) (by kernel_rfl) (by kernel_rfl) tabOk f51GOk (by kernel_rfl) (by kernel_rfl) (by kernel_rfl) (by kernel_rfl) fun X hb hp => by
    obtain ⟨v0, _⟩ := X
    obtain ⟨N, h⟩ := h v0 hb.1
    exact ⟨N, (f51m N v0).trans (h N (Nat.le_refl N))⟩
theorem e51ok : EntryOk Try.prog 51 e51 := f51ok spec_MatrixOk.ok
end Go.Fw
namespace Go.Fw
variable {ρ : Type}
open Go.Proofs
noncomputable def f92sig : Sig := ⟨[⟨.sl 3 (.int .i64), false, false⟩], [⟨.sl 3 (.int .i64), false, false⟩]⟩
noncomputable def e92 : Entry := ⟨f92sig, (some fun X => spec_l1Ints.P X.1), fun X => ((), ((spec_l1Ints.g X.1), ()))⟩
noncomputable def f92G : Gm := emptyG
theorem f92GOk : GOk Try.prog f92G := GOk.nil
noncomputable def f92lE : Clean := ⟨[], [], [], [], []⟩
noncomputable def f92s0 (v0 : LI) : St := initSt f92sig.ps (v0, ())
noncomputable def f92s1 (v2 : LI) : St := stOf [(2, xo 1000128)] [] [(1000128, (⟨3, .int .i64, v2, true, false⟩ : Row))]
noncomputable def f92l1 : Clean := ⟨[2], [], [], [], [(⟨false, 2, 0⟩, 1000128)]⟩
noncomputable def f92B : Nat → Option Clean := lookL [(1000000, f92l1)]
noncomputable abbrev f92i {ρ : Type} (N : Nat) (c : Code) (p : Plan) (σ : St) (K : KT ρ) : Option ρ := iCode f92G tab f92B N c p σ K
noncomputable def f92c (n : Nat) : Code := codeN 99 (bodyOf Try.f92) n
theorem f92t0 N v0 (K : KT ρ) : f92i N (f92c 1) .n (f92s0 v0) (joinK (some f92lE) K) =
  spec_l1Ints.Z0 N v0 (fun v2 => K .ret (f92s1 v2)) := by kernel_rfl
theorem f92m (N : Nat) (v0 : LI) : f92i N (f92c 1) .n (f92s0 v0) (joinK (some f92lE) (finK tab f92sig Try.f92.results.toList)) = spec_l1Ints.Z0 N v0 (fun v2 => some ((), (v2, ()))) :=
  (f92t0 N v0 (finK tab f92sig Try.f92.results.toList)).trans (by kernel_rfl)
theorem f92ok (h : spec_l1Ints.Spec) : EntryOk Try.prog 92 e92 :=
  entry_of_code (sig := f92sig) (c := (f92c 1)) (pl := .n) (je := (some f92lE)) (B := f92B) Try.func92 (by kernel_rfl) (by kernel_rfl) (by kernel_rfl) tabOk f92GOk (by kernel_rfl) (by kernel_rfl) (by kernel_rfl) (by kernel_rfl) fun X hb hp => by
    obtain ⟨v0, _⟩ := X
    obtain ⟨N, h⟩ := h v0 hb.1 hp
    exact ⟨N, (f92m N v0).trans (h N (Nat.le_refl N))⟩
theorem e92ok : EntryOk Try.prog 92 e92 := f92ok spec_l1Ints.ok
end Go.Fw
namespace Go.Fw
variable {ρ : Type}
open Go.Proofs
noncomputable def f102sig : Sig := ⟨[⟨.pair (.int .i64) (.pair (.int .i64) (.sl 3 (.int .i64))), true, false⟩], [⟨.pair (.int .i64) (.pair (.int .i64) (.sl 3 (.int .i64))), true, false⟩]⟩
noncomputable def e102 : Entry := ⟨f102sig, (some fun X => spec_l1CopyMatrix.P X.1), fun X => ((), ((spec_l1CopyMatrix.g X.1), ()))⟩
noncomputable def f102G : Gm := addG emptyG 92 e92
theorem f102GOk : GOk Try.prog f102G := (GOk.nil).add e92ok (by kernel_rfl)
noncomputable def f102lE : Clean := ⟨[], [], [], [], []⟩
noncomputable def f102s0 (v0 : MT) : St := initSt f102sig.ps (v0, ())
noncomputable def f102s1 (v2_2 : LI) (v2_0 v2_1 : Int) : St := stOf [(2, xb 2)] [(2, (30, [yi v2_0, yi v2_1, .own 20000130]))] [(20000130, (⟨3, .int .i64, v2_2, true, false⟩ : Row))]
noncomputable def f102l1 : Clean := ⟨[2], [2], [], [], [(⟨true, 2, 2⟩, 20000130)]⟩
noncomputable def f102B : Nat → Option Clean := lookL [(1000000, f102l1)]
noncomputable abbrev f102i {ρ : Type} (N : Nat) (c : Code) (p : Plan) (σ : St) (K : KT ρ) : Option ρ := iCode f102G tab f102B N c p σ K
noncomputable def f102c (n : Nat) : Code := codeN 99 (bodyOf Try.f102) n
theorem f102t0 N v0 (K : KT ρ) : f102i N (f102c 1) .n (f102s0 v0) (joinK (some f102lE) K) =
  spec_l1CopyMatrix.Z0 N v0 (fun v2_2 v2_0 v2_1 => K .ret (f102s1 v2_2 v2_0 v2_1)) := by kernel_rfl
theorem f102m (N : Nat) (v0 : MT) : f102i N (f102c 1) .n (f102s0 v0) (joinK (some f102lE) (finK tab f102sig Try.f102.results.toList)) = spec_l1CopyMatrix.Z0 N v0 (fun v2_2 v2_0 v2_1 => some ((), ((v2_0, (v2_1, v2_2)), ()))) :=
  (f102t0 N v0 (finK tab f102sig Try.f102.results.toList)).trans (by kernel_rfl)
theorem f102ok (h : spec_l1CopyMatrix.Spec) : EntryOk Try.prog 102 e102 :=
  entry_of_code (sig := f102sig) (c := (f102c 1)) (pl := .n) (je := (some f102lE)) (B := f102B) Try.func102 (by kernel_rfl) (by kernel_rfl) (by kernel_rfl) tabOk f102GOk (by kernel_rfl) (by kernel_rfl) (by kernel_rfl) (by kernel_rfl) fun X hb hp => by
    obtain ⟨v0, _⟩ := X
    obtain ⟨N, h⟩ := h v0 hb.1 hp
    exact ⟨N, (f102m N v0).trans (h N (Nat.le_refl N))⟩
theorem e102ok : EntryOk Try.prog 102 e102 := f102ok spec_l1CopyMatrix.ok
end Go.Fw
namespace Go.Fw
variable {ρ : Type}
open Go.Proofs
noncomputable def f111rf : Rf := none
noncomputable def f111ps : List PT := [⟨.sl 3 (.int .i64), false, true⟩, ⟨.int .i64, false, false⟩, ⟨.sl 22 (.sl 3 (.int .i64)), false, true⟩]
noncomputable def f111rs : List PT := [⟨.sl 22 (.sl 3 (.int .i64)), false, false⟩]
noncomputable def e111S (m : Nat) : EntryM := ⟨f111rf, f111ps, f111rs, (some (below (fun X => spec_l1Orders.mu X.2.1 X.2.2.1 X.2.2.2.1) (fun X => spec_l1Orders.P X.2.1 X.2.2.1 X.2.2.2.1) m)), fun X => ((), ((spec_l1Orders.g X.2.1 X.2.2.1 X.2.2.2.1), ()))⟩
noncomputable def e111 : EntryM := ⟨f111rf, f111ps, f111rs, (some fun X => spec_l1Orders.P X.2.1 X.2.2.1 X.2.2.2.1), fun X => ((), ((spec_l1Orders.g X.2.1 X.2.2.1 X.2.2.2.1), ()))⟩
noncomputable def f111G (m : Nat) : Gm := addG (addM (addG emptyG 92 e92) 111 (e111S m)) 129 e129
theorem f111GOk (m : Nat) (hself : EntryMOk Try.prog 111 (e111S m)) : GOk Try.prog (f111G m) := (((GOk.nil).add e92ok (by kernel_rfl)).addM hself (by kernel_rfl)).add e129ok (by kernel_rfl)
noncomputable def f111lE : Clean := ⟨[], [], [], [], []⟩
noncomputable def f111s0 (v0 : LI) (v1 : Int) (v2 : LL) : St := initStM f111rf f111ps ((), (v0, (v1, (v2, ()))))
noncomputable def f111s1 (v0 : LI) (v2 : LL) (v1 : Int) : St := stOf [(0, xo 1000000), (1, xi v1), (2, xo 1000128)] [] [(1000000, (⟨3, .int .i64, v0, true, false⟩ : Row)), (1000128, (⟨22, .sl 3 tI, v2, true, false⟩ : Row))]
noncomputable def f111l1 : Clean := ⟨[0, 1, 2], [], [], [], [(⟨false, 0, 0⟩, 1000000), (⟨false, 2, 0⟩, 1000128)]⟩
noncomputable def f111s2 (v0 : LI) (v2 : LL) (v1 v7 : Int) : St := stOf [(0, xo 1000000), (1, xi v1), (2, xo 1000128), (7, xi v7)] [] [(1000000, (⟨3, .int .i64, v0, true, false⟩ : Row)), (1000128, (⟨22, .sl 3 tI, v2, true, false⟩ : Row))]
noncomputable def f111l2 : Clean := ⟨[0, 1, 2, 7], [], [], [], [(⟨false, 0, 0⟩, 1000000), (⟨false, 2, 0⟩, 1000128)]⟩
noncomputable def f111s3 (v2 : LL) : St := stOf [(2, xo 1000128)] [] [(1000128, (⟨22, .sl 3 tI, v2, true, false⟩ : Row))]
noncomputable def f111l3 : Clean := ⟨[2], [], [], [], [(⟨false, 2, 0⟩, 1000128)]⟩
noncomputable def f111s4 (v6 : LL) : St := stOf [(6, xo 1000384)] [] [(1000384, (⟨22, .sl 3 tI, v6, true, false⟩ : Row))]
noncomputable def f111l4 : Clean := ⟨[6], [], [], [], [(⟨false, 6, 0⟩, 1000384)]⟩
noncomputable def f111B : Nat → Option Clean := lookL [(0, f111l3), (1000000, f111l4)]
noncomputable abbrev f111i {ρ : Type} (N m : Nat) (c : Code) (p : Plan) (σ : St) (K : KT ρ) : Option ρ := iCode (f111G m) tab f111B N c p σ K
noncomputable def f111c (n : Nat) : Code := codeN 99 (bodyOf Try.f111) n
theorem f111t1 N m v0 v1 v2 (K : KT ρ) : f111i N m (f111c 2) .n (f111s0 v0 v1 v2) (joinK (some f111l1) K) =
  spec_l1Orders.Z1 N m v0 v1 v2 (fun v0 v2 v1 => K .nrm (f111s1 v0 v2 v1)) := by kernel_rfl
theorem f111t3 N m v0 v2 v1 (K : KT ρ) : f111i N m (f111c 5) .n (f111s1 v0 v2 v1) (joinK (some f111l1) K) =
  spec_l1Orders.Z3 N m v0 v2 v1 (fun v0 v2 v1 => K .nrm (f111s1 v0 v2 v1)) (fun v6 => K .ret (f111s4 v6)) := by kernel_rfl
theorem f111t6 N m v0 v2 v1 (K : KT ρ) : f111i N m (f111c 19) .n (f111s1 v0 v2 v1) (joinK (some f111l2) K) =
  spec_l1Orders.Z6 N m v0 v2 v1 (fun v0 v2 v1 v7 => K .nrm (f111s2 v0 v2 v1 v7)) := by kernel_rfl
theorem f111t9 N m v0 v2 v1 v7 (K : KT ρ) : f111i N m (f111c 75) .n (f111s2 v0 v2 v1 v7) (joinK (some f111l2) K) =
  spec_l1Orders.Z9 N m v0 v2 v1 v7 (fun v0 v2 v1 v7 => K .nrm (f111s2 v0 v2 v1 v7)) (fun v2 => K (.exit 0) (f111s3 v2)) := by kernel_rfl
noncomputable def f111p8 : Plan := .mk none (some f111l2) .n .n
noncomputable abbrev f111w8 {ρ : Type} (N m M : Nat) (σ : St) (K : KT ρ) : Option ρ := loopC (fun σ K => f111i N m (f111c 75) .n σ K) f111l2 M σ K
theorem f111t8L {ρ : Type} (N m : Nat) (K : KT ρ) : ∀ (M : Nat) (v0 : LI) (v2 : LL) (v1 v7 : Int), f111w8 N m M (f111s2 v0 v2 v1 v7) K =
  spec_l1Orders.Z8L N m (fun v2 => K (.exit 0) (f111s3 v2)) M v0 v2 v1 v7
  | 0, _, _, _, _ => rfl
  | M + 1, v0, v2, v1, v7 => viaRoundS (fun k => spec_l1Orders.Z9 N m v0 v2 v1 v7 k (fun v2 => K (.exit 0) (f111s3 v2))) (f111t9 N m (K := seqK (fun σ => f111w8 N m M σ K) K) ..) (fx4 fun v0 v2 v1 v7 => f111t8L N m K M v0 v2 v1 v7) (by kernel_rfl)
theorem f111t8 N m v0 v2 v1 v7 (K : KT ρ) : f111i N m (f111c 43) f111p8 (f111s2 v0 v2 v1 v7) (joinK (some f111l3) K) =
  spec_l1Orders.Z8 N m v0 v2 v1 v7 (fun v2 => K (.exit 0) (f111s3 v2)) :=
 viaLoopS (by kernel_rfl) (f111t8L N m (joinK (some f111l3) K) N v0 v2 v1 v7) (by kernel_rfl)
noncomputable def f111p7 : Plan := .mk (some f111l3) none f111p8 .n
theorem f111t7 N m v0 v2 v1 v7 (K : KT ρ) : f111i N m (f111c 27) f111p7 (f111s2 v0 v2 v1 v7) (joinK (some f111l3) K) =
  spec_l1Orders.Z7 N m v0 v2 v1 v7 (fun v2 => K .nrm (f111s3 v2)) :=
 viaBlockS (by kernel_rfl) (f111t8 N m (K := blockK 0 (joinK (some f111l3) K)) ..) (by kernel_rfl)
noncomputable def f111p5 : Plan := .mk (some f111l2) none .n f111p7
theorem f111t5 N m v0 v2 v1 (K : KT ρ) : f111i N m (f111c 11) f111p5 (f111s1 v0 v2 v1) (joinK (some f111l3) K) =
  spec_l1Orders.Z5 N m v0 v2 v1 (fun v2 => K .nrm (f111s3 v2)) :=
 viaSeqS (fun k => spec_l1Orders.Z6 N m v0 v2 v1 k) (by kernel_rfl) (f111t6 N m (K := seqK (fun σ => f111i N m (f111c 27) f111p7 σ (joinK (some f111l3) K)) (joinK (some f111l3) K)) ..) (fx4 fun v0 v2 v1 v7 => f111t7 N m v0 v2 v1 v7 K) (by kernel_rfl)
theorem f111t10 N m v2 (K : KT ρ) : f111i N m (f111c 15) .n (f111s3 v2) (joinK (some f111lE) K) =
  spec_l1Orders.Z10 N m v2 (fun v6 => K .ret (f111s4 v6)) := by kernel_rfl
noncomputable def f111p4 : Plan := .mk (some f111l3) none f111p5 .n
theorem f111t4 N m v0 v2 v1 (K : KT ρ) : f111i N m (f111c 7) f111p4 (f111s1 v0 v2 v1) (joinK (some f111lE) K) =
  spec_l1Orders.Z4 N m v0 v2 v1 (fun v6 => K .ret (f111s4 v6)) :=
 viaSeqS (fun k => spec_l1Orders.Z5 N m v0 v2 v1 k) (by kernel_rfl) (f111t5 N m (K := seqK (fun σ => f111i N m (f111c 15) .n σ (joinK (some f111lE) K)) (joinK (some f111lE) K)) ..) (funext fun v2 => f111t10 N m v2 K) (by kernel_rfl)
noncomputable def f111p2 : Plan := .mk (some f111l1) none .n f111p4
theorem f111t2 N m v0 v2 v1 (K : KT ρ) : f111i N m (f111c 3) f111p2 (f111s1 v0 v2 v1) (joinK (some f111lE) K) =
  spec_l1Orders.Z2 N m v0 v2 v1 (fun v6 => K .ret (f111s4 v6)) :=
 viaSeqS (fun k => spec_l1Orders.Z3 N m v0 v2 v1 k (fun v6 => K .ret (f111s4 v6))) (by kernel_rfl) (f111t3 N m (K := seqK (fun σ => f111i N m (f111c 7) f111p4 σ (joinK (some f111lE) K)) (joinK (some f111lE) K)) ..) (fx3 fun v0 v2 v1 => f111t4 N m v0 v2 v1 K) (by kernel_rfl)
noncomputable def f111p0 : Plan := .mk (some f111l1) none .n f111p2
theorem f111t0 N m v0 v1 v2 (K : KT ρ) : f111i N m (f111c 1) f111p0 (f111s0 v0 v1 v2) (joinK (some f111lE) K) =
  spec_l1Orders.Z0 N m v0 v1 v2 (fun v6 => K .ret (f111s4 v6)) :=
 viaSeqS (fun k => spec_l1Orders.Z1 N m v0 v1 v2 k) (by kernel_rfl) (f111t1 N m (K := seqK (fun σ => f111i N m (f111c 3) f111p2 σ (joinK (some f111lE) K)) (joinK (some f111lE) K)) ..) (fx3 fun v0 v2 v1 => f111t2 N m v0 v2 v1 K) (by kernel_rfl)
theorem f111m (N m : Nat) (v0 : LI) (v1 : Int) (v2 : LL) : f111i N m (f111c 1) f111p0 (f111s0 v0 v1 v2) (joinK (some f111lE) (finKM tab f111rf f111rs Try.f111.results.toList)) = spec_l1Orders.Z0 N m v0 v1 v2 (fun v6 => some ((), (v6, ()))) :=
  (f111t0 N m v0 v1 v2 (finKM tab f111rf f111rs Try.f111.results.toList)).trans (by kernel_rfl)
theorem f111ok (h : spec_l1Orders.Spec) : EntryMOk Try.prog 111 e111 :=
  EntryMOk.rec (μ := fun X => spec_l1Orders.mu X.2.1 X.2.2.1 X.2.2.2.1) (fun m hself => entryM_of_code (rf := f111rf) (ps := f111ps) (rs := f111rs) (c := (f111c 1)) (pl := f111p0) (je := (some f111lE)) (B := f111B) Try.func111 (by kernel_rfl) (by kernel_rfl) (by kernel_rfl) tabOk (f111GOk m hself) (by kernel_rfl) (by kernel_rfl) (by kernel_rfl) fun X hb1 hb2 hp => by
    obtain ⟨u, v0, v1, v2, _⟩ := X
    obtain ⟨N, h⟩ := h m v0 v1 v2 hb2.1 hb2.2.2.1 hp
    exact ⟨N, (f111m N m v0 v1 v2).trans (h N (Nat.le_refl N))⟩)
theorem e111ok : EntryMOk Try.prog 111 e111 := f111ok spec_l1Orders.ok
end Go.Fw
namespace Go.Fw
variable {ρ : Type}
open Go.Proofs
noncomputable def f112sig : Sig := ⟨[⟨.pair (.int .i64) (.pair (.int .i64) (.sl 3 (.int .i64))), true, false⟩, ⟨.sl 3 (.int .i64), false, false⟩], [⟨.pair (.int .i64) (.pair (.int .i64) (.sl 3 (.int .i64))), true, false⟩]⟩
noncomputable def e112 : Entry := ⟨f112sig, (some fun X => spec_l1Rename.P X.1 X.2.1), fun X => ((), ((spec_l1Rename.g X.1 X.2.1), ()))⟩
noncomputable def f112G : Gm := addG (addG emptyG 80 e80) 102 e102
theorem f112GOk : GOk Try.prog f112G := ((GOk.nil).add e80ok (by kernel_rfl)).add e102ok (by kernel_rfl)
noncomputable def f112lE : Clean := ⟨[], [], [], [], []⟩
noncomputable def f112s0 (v0 : MT) (v1 : LI) : St := initSt f112sig.ps (v0, (v1, ()))
noncomputable def f112s1 (v1 : LI) (v2_0 v2_1 : Int) (v2_2 : LI) (v4_0 v4_1 : Int) : St := stOf [(1, .c (.sn 3 tI v1 none)), (2, xb 2), (4, xb 4)] [(2, (30, [yi v2_0, yi v2_1, .sn 3 tI v2_2 none])), (4, (30, [yi v4_0, yi v4_1, .nil]))] []
noncomputable def f112l1 : Clean := ⟨[1, 2, 4], [2, 4], [], [], []⟩
noncomputable def f112s2 (v5_2 v1 : LI) (v2_0 v2_1 : Int) (v2_2 : LI) (v4_0 v4_1 v5_0 v5_1 : Int) : St := stOf [(1, .c (.sn 3 tI v1 none)), (2, xb 2), (4, xb 4), (5, xb 5)] [(2, (30, [yi v2_0, yi v2_1, .sn 3 tI v2_2 none])), (4, (30, [yi v4_0, yi v4_1, .nil])), (5, (30, [yi v5_0, yi v5_1, .own 20000322]))] [(20000322, (⟨3, .int .i64, v5_2, true, false⟩ : Row))]
noncomputable def f112l2 : Clean := ⟨[1, 2, 4, 5], [2, 4, 5], [], [], [(⟨true, 5, 2⟩, 20000322)]⟩
noncomputable def f112s3 (v5_2 v1 : LI) (v6 v2_0 v2_1 : Int) (v2_2 : LI) (v4_0 v4_1 v5_0 v5_1 : Int) : St := stOf [(1, .c (.sn 3 tI v1 none)), (2, xb 2), (4, xb 4), (5, xb 5), (6, xi v6)] [(2, (30, [yi v2_0, yi v2_1, .sn 3 tI v2_2 none])), (4, (30, [yi v4_0, yi v4_1, .nil])), (5, (30, [yi v5_0, yi v5_1, .own 20000322]))] [(20000322, (⟨3, .int .i64, v5_2, true, false⟩ : Row))]
noncomputable def f112l3 : Clean := ⟨[1, 2, 4, 5, 6], [2, 4, 5], [], [], [(⟨true, 5, 2⟩, 20000322)]⟩
noncomputable def f112s4 (v5_2 v1 : LI) (v6 v7 v2_0 v2_1 : Int) (v2_2 : LI) (v4_0 v4_1 v5_0 v5_1 : Int) : St := stOf [(1, .c (.sn 3 tI v1 none)), (2, xb 2), (4, xb 4), (5, xb 5), (6, xi v6), (7, xi v7)] [(2, (30, [yi v2_0, yi v2_1, .sn 3 tI v2_2 none])), (4, (30, [yi v4_0, yi v4_1, .nil])), (5, (30, [yi v5_0, yi v5_1, .own 20000322]))] [(20000322, (⟨3, .int .i64, v5_2, true, false⟩ : Row))]
noncomputable def f112l4 : Clean := ⟨[1, 2, 4, 5, 6, 7], [2, 4, 5], [], [], [(⟨true, 5, 2⟩, 20000322)]⟩
noncomputable def f112s5 (v5_2 v1 : LI) (v6 v7 v8 v2_0 v2_1 : Int) (v2_2 : LI) (v4_0 v4_1 v5_0 v5_1 : Int) : St := stOf [(1, .c (.sn 3 tI v1 none)), (2, xb 2), (4, xb 4), (5, xb 5), (6, xi v6), (7, xi v7), (8, xi v8)] [(2, (30, [yi v2_0, yi v2_1, .sn 3 tI v2_2 none])), (4, (30, [yi v4_0, yi v4_1, .nil])), (5, (30, [yi v5_0, yi v5_1, .own 20000322]))] [(20000322, (⟨3, .int .i64, v5_2, true, false⟩ : Row))]
noncomputable def f112l5 : Clean := ⟨[1, 2, 4, 5, 6, 7, 8], [2, 4, 5], [], [], [(⟨true, 5, 2⟩, 20000322)]⟩
noncomputable def f112s6 (v5_2 : LI) (v4_0 v4_1 v5_0 v5_1 : Int) : St := stOf [(4, xb 4), (5, xb 5)] [(4, (30, [yi v4_0, yi v4_1, .nil])), (5, (30, [yi v5_0, yi v5_1, .own 20000322]))] [(20000322, (⟨3, .int .i64, v5_2, true, false⟩ : Row))]
noncomputable def f112l6 : Clean := ⟨[4, 5], [4, 5], [], [], [(⟨true, 5, 2⟩, 20000322)]⟩
noncomputable def f112s7 (v4_2 : LI) (v4_0 v4_1 : Int) : St := stOf [(4, xb 4)] [(4, (30, [yi v4_0, yi v4_1, .own 20000258]))] [(20000258, (⟨3, .int .i64, v4_2, true, false⟩ : Row))]
noncomputable def f112l7 : Clean := ⟨[4], [4], [], [], [(⟨true, 4, 2⟩, 20000258)]⟩
noncomputable def f112B : Nat → Option Clean := lookL [(2, f112l3), (1, f112l3), (0, f112l6), (1000000, f112l7)]
noncomputable abbrev f112i {ρ : Type} (N : Nat) (c : Code) (p : Plan) (σ : St) (K : KT ρ) : Option ρ := iCode f112G tab f112B N c p σ K
noncomputable def f112c (n : Nat) : Code := codeN 99 (bodyOf Try.f112) n
theorem f112t1 N v0 v1 (K : KT ρ) : f112i N (f112c 2) .n (f112s0 v0 v1) (joinK (some f112l1) K) =
  spec_l1Rename.Z1 N v0 v1 (fun v1 v2_0 v2_1 v2_2 v4_0 v4_1 => K .nrm (f112s1 v1 v2_0 v2_1 v2_2 v4_0 v4_1)) := by kernel_rfl
theorem f112t3 N v1 v2_0 v2_1 v2_2 v4_0 v4_1 (K : KT ρ) : f112i N (f112c 5) .n (f112s1 v1 v2_0 v2_1 v2_2 v4_0 v4_1) (joinK (some f112l2) K) =
  spec_l1Rename.Z3 N v1 v2_0 v2_1 v2_2 v4_0 v4_1 (fun v5_2 v1 v2_0 v2_1 v2_2 v4_0 v4_1 v5_0 v5_1 => K .nrm (f112s2 v5_2 v1 v2_0 v2_1 v2_2 v4_0 v4_1 v5_0 v5_1)) := by kernel_rfl
theorem f112t6 N v5_2 v1 v2_0 v2_1 v2_2 v4_0 v4_1 v5_0 v5_1 (K : KT ρ) : f112i N (f112c 19) .n (f112s2 v5_2 v1 v2_0 v2_1 v2_2 v4_0 v4_1 v5_0 v5_1) (joinK (some f112l3) K) =
  spec_l1Rename.Z6 N v5_2 v1 v2_0 v2_1 v2_2 v4_0 v4_1 v5_0 v5_1 (fun v5_2 v1 v6 v2_0 v2_1 v2_2 v4_0 v4_1 v5_0 v5_1 => K .nrm (f112s3 v5_2 v1 v6 v2_0 v2_1 v2_2 v4_0 v4_1 v5_0 v5_1)) := by kernel_rfl
theorem f112t10 N v5_2 v1 v6 v2_0 v2_1 v2_2 v4_0 v4_1 v5_0 v5_1 (K : KT ρ) : f112i N (f112c 139) .n (f112s3 v5_2 v1 v6 v2_0 v2_1 v2_2 v4_0 v4_1 v5_0 v5_1) (joinK (some f112l3) K) =
  spec_l1Rename.Z10 N v5_2 v1 v6 v2_0 v2_1 v2_2 v4_0 v4_1 v5_0 v5_1 (fun v5_2 v1 v6 v2_0 v2_1 v2_2 v4_0 v4_1 v5_0 v5_1 => K .nrm (f112s3 v5_2 v1 v6 v2_0 v2_1 v2_2 v4_0 v4_1 v5_0 v5_1)) (fun v5_2 v4_0 v4_1 v5_0 v5_1 => K (.exit 0) (f112s6 v5_2 v4_0 v4_1 v5_0 v5_1)) := by kernel_rfl
theorem f112t14 N v5_2 v1 v6 v2_0 v2_1 v2_2 v4_0 v4_1 v5_0 v5_1 (K : KT ρ) : f112i N (f112c 1099) .n (f112s3 v5_2 v1 v6 v2_0 v2_1 v2_2 v4_0 v4_1 v5_0 v5_1) (joinK (some f112l4) K) =
  spec_l1Rename.Z14 N v5_2 v1 v6 v2_0 v2_1 v2_2 v4_0 v4_1 v5_0 v5_1 (fun v5_2 v1 v6 v7 v2_0 v2_1 v2_2 v4_0 v4_1 v5_0 v5_1 => K .nrm (f112s4 v5_2 v1 v6 v7 v2_0 v2_1 v2_2 v4_0 v4_1 v5_0 v5_1)) := by kernel_rfl
theorem f112t16 N v5_2 v1 v6 v7 v2_0 v2_1 v2_2 v4_0 v4_1 v5_0 v5_1 (K : KT ρ) : f112i N (f112c 2635) .n (f112s4 v5_2 v1 v6 v7 v2_0 v2_1 v2_2 v4_0 v4_1 v5_0 v5_1) (joinK (some f112l4) K) =
  spec_l1Rename.Z16 N v5_2 v1 v6 v7 v2_0 v2_1 v2_2 v4_0 v4_1 v5_0 v5_1 (fun v5_2 v1 v6 v7 v2_0 v2_1 v2_2 v4_0 v4_1 v5_0 v5_1 => K .nrm (f112s4 v5_2 v1 v6 v7 v2_0 v2_1 v2_2 v4_0 v4_1 v5_0 v5_1)) := by kernel_rfl
theorem f112t18 N v5_2 v1 v6 v7 v2_0 v2_1 v2_2 v4_0 v4_1 v5_0 v5_1 (K : KT ρ) : f112i N (f112c 5707) .n (f112s4 v5_2 v1 v6 v7 v2_0 v2_1 v2_2 v4_0 v4_1 v5_0 v5_1) (joinK (some f112l5) K) =
  spec_l1Rename.Z18 N v5_2 v1 v6 v7 v2_0 v2_1 v2_2 v4_0 v4_1 v5_0 v5_1 (fun v5_2 v1 v6 v7 v8 v2_0 v2_1 v2_2 v4_0 v4_1 v5_0 v5_1 => K .nrm (f112s5 v5_2 v1 v6 v7 v8 v2_0 v2_1 v2_2 v4_0 v4_1 v5_0 v5_1)) := by kernel_rfl
theorem f112t21 N v5_2 v1 v6 v7 v8 v2_0 v2_1 v2_2 v4_0 v4_1 v5_0 v5_1 (K : KT ρ) : f112i N (f112c 20043) .n (f112s5 v5_2 v1 v6 v7 v8 v2_0 v2_1 v2_2 v4_0 v4_1 v5_0 v5_1) (joinK (some f112l5) K) =
  spec_l1Rename.Z21 N v5_2 v1 v6 v7 v8 v2_0 v2_1 v2_2 v4_0 v4_1 v5_0 v5_1 (fun v5_2 v1 v6 v7 v8 v2_0 v2_1 v2_2 v4_0 v4_1 v5_0 v5_1 => K .nrm (f112s5 v5_2 v1 v6 v7 v8 v2_0 v2_1 v2_2 v4_0 v4_1 v5_0 v5_1)) (fun v5_2 v1 v6 v2_0 v2_1 v2_2 v4_0 v4_1 v5_0 v5_1 => K (.exit 2) (f112s3 v5_2 v1 v6 v2_0 v2_1 v2_2 v4_0 v4_1 v5_0 v5_1)) := by kernel_rfl
noncomputable def f112p20 : Plan := .mk none (some f112l5) .n .n
noncomputable abbrev f112w20 {ρ : Type} (N M : Nat) (σ : St) (K : KT ρ) : Option ρ := loopC (fun σ K => f112i N (f112c 20043) .n σ K) f112l5 M σ K
theorem f112t20L {ρ : Type} (N : Nat) (K : KT ρ) : ∀ (M : Nat) (v5_2 v1 : LI) (v6 v7 v8 v2_0 v2_1 : Int) (v2_2 : LI) (v4_0 v4_1 v5_0 v5_1 : Int), f112w20 N M (f112s5 v5_2 v1 v6 v7 v8 v2_0 v2_1 v2_2 v4_0 v4_1 v5_0 v5_1) K =
  spec_l1Rename.Z20L N (fun v5_2 v1 v6 v2_0 v2_1 v2_2 v4_0 v4_1 v5_0 v5_1 => K (.exit 2) (f112s3 v5_2 v1 v6 v2_0 v2_1 v2_2 v4_0 v4_1 v5_0 v5_1)) M v5_2 v1 v6 v7 v8 v2_0 v2_1 v2_2 v4_0 v4_1 v5_0 v5_1
  | 0, _, _, _, _, _, _, _, _, _, _, _, _ => rfl
  | M + 1, v5_2, v1, v6, v7, v8, v2_0, v2_1, v2_2, v4_0, v4_1, v5_0, v5_1 => viaRoundS (fun k => spec_l1Rename.Z21 N v5_2 v1 v6 v7 v8 v2_0 v2_1 v2_2 v4_0 v4_1 v5_0 v5_1 k (fun v5_2 v1 v6 v2_0 v2_1 v2_2 v4_0 v4_1 v5_0 v5_1 => K (.exit 2) (f112s3 v5_2 v1 v6 v2_0 v2_1 v2_2 v4_0 v4_1 v5_0 v5_1))) (f112t21 N (K := seqK (fun σ => f112w20 N M σ K) K) ..) (fx12 fun v5_2 v1 v6 v7 v8 v2_0 v2_1 v2_2 v4_0 v4_1 v5_0 v5_1 => f112t20L N K M v5_2 v1 v6 v7 v8 v2_0 v2_1 v2_2 v4_0 v4_1 v5_0 v5_1) (by kernel_rfl)
theorem f112t20 N v5_2 v1 v6 v7 v8 v2_0 v2_1 v2_2 v4_0 v4_1 v5_0 v5_1 (K : KT ρ) : f112i N (f112c 11851) f112p20 (f112s5 v5_2 v1 v6 v7 v8 v2_0 v2_1 v2_2 v4_0 v4_1 v5_0 v5_1) (joinK (some f112l3) K) =
  spec_l1Rename.Z20 N v5_2 v1 v6 v7 v8 v2_0 v2_1 v2_2 v4_0 v4_1 v5_0 v5_1 (fun v5_2 v1 v6 v2_0 v2_1 v2_2 v4_0 v4_1 v5_0 v5_1 => K (.exit 2) (f112s3 v5_2 v1 v6 v2_0 v2_1 v2_2 v4_0 v4_1 v5_0 v5_1)) :=
 viaLoopS (by kernel_rfl) (f112t20L N (joinK (some f112l3) K) N v5_2 v1 v6 v7 v8 v2_0 v2_1 v2_2 v4_0 v4_1 v5_0 v5_1) (by kernel_rfl)
noncomputable def f112p19 : Plan := .mk (some f112l3) none f112p20 .n
theorem f112t19 N v5_2 v1 v6 v7 v8 v2_0 v2_1 v2_2 v4_0 v4_1 v5_0 v5_1 (K : KT ρ) : f112i N (f112c 7755) f112p19 (f112s5 v5_2 v1 v6 v7 v8 v2_0 v2_1 v2_2 v4_0 v4_1 v5_0 v5_1) (joinK (some f112l3) K) =
  spec_l1Rename.Z19 N v5_2 v1 v6 v7 v8 v2_0 v2_1 v2_2 v4_0 v4_1 v5_0 v5_1 (fun v5_2 v1 v6 v2_0 v2_1 v2_2 v4_0 v4_1 v5_0 v5_1 => K .nrm (f112s3 v5_2 v1 v6 v2_0 v2_1 v2_2 v4_0 v4_1 v5_0 v5_1)) :=
 viaBlockS (by kernel_rfl) (f112t20 N (K := blockK 2 (joinK (some f112l3) K)) ..) (by kernel_rfl)
noncomputable def f112p17 : Plan := .mk (some f112l5) none .n f112p19
theorem f112t17 N v5_2 v1 v6 v7 v2_0 v2_1 v2_2 v4_0 v4_1 v5_0 v5_1 (K : KT ρ) : f112i N (f112c 3659) f112p17 (f112s4 v5_2 v1 v6 v7 v2_0 v2_1 v2_2 v4_0 v4_1 v5_0 v5_1) (joinK (some f112l3) K) =
  spec_l1Rename.Z17 N v5_2 v1 v6 v7 v2_0 v2_1 v2_2 v4_0 v4_1 v5_0 v5_1 (fun v5_2 v1 v6 v2_0 v2_1 v2_2 v4_0 v4_1 v5_0 v5_1 => K .nrm (f112s3 v5_2 v1 v6 v2_0 v2_1 v2_2 v4_0 v4_1 v5_0 v5_1)) :=
 viaSeqS (fun k => spec_l1Rename.Z18 N v5_2 v1 v6 v7 v2_0 v2_1 v2_2 v4_0 v4_1 v5_0 v5_1 k) (by kernel_rfl) (f112t18 N (K := seqK (fun σ => f112i N (f112c 7755) f112p19 σ (joinK (some f112l3) K)) (joinK (some f112l3) K)) ..) (fx12 fun v5_2 v1 v6 v7 v8 v2_0 v2_1 v2_2 v4_0 v4_1 v5_0 v5_1 => f112t19 N v5_2 v1 v6 v7 v8 v2_0 v2_1 v2_2 v4_0 v4_1 v5_0 v5_1 K) (by kernel_rfl)
noncomputable def f112p15 : Plan := .mk (some f112l4) none .n f112p17
theorem f112t15 N v5_2 v1 v6 v7 v2_0 v2_1 v2_2 v4_0 v4_1 v5_0 v5_1 (K : KT ρ) : f112i N (f112c 1611) f112p15 (f112s4 v5_2 v1 v6 v7 v2_0 v2_1 v2_2 v4_0 v4_1 v5_0 v5_1) (joinK (some f112l3) K) =
  spec_l1Rename.Z15 N v5_2 v1 v6 v7 v2_0 v2_1 v2_2 v4_0 v4_1 v5_0 v5_1 (fun v5_2 v1 v6 v2_0 v2_1 v2_2 v4_0 v4_1 v5_0 v5_1 => K .nrm (f112s3 v5_2 v1 v6 v2_0 v2_1 v2_2 v4_0 v4_1 v5_0 v5_1)) :=
 viaSeqS (fun k => spec_l1Rename.Z16 N v5_2 v1 v6 v7 v2_0 v2_1 v2_2 v4_0 v4_1 v5_0 v5_1 k) (by kernel_rfl) (f112t16 N (K := seqK (fun σ => f112i N (f112c 3659) f112p17 σ (joinK (some f112l3) K)) (joinK (some f112l3) K)) ..) (fx11 fun v5_2 v1 v6 v7 v2_0 v2_1 v2_2 v4_0 v4_1 v5_0 v5_1 => f112t17 N v5_2 v1 v6 v7 v2_0 v2_1 v2_2 v4_0 v4_1 v5_0 v5_1 K) (by kernel_rfl)
noncomputable def f112p13 : Plan := .mk (some f112l4) none .n f112p15
theorem f112t13 N v5_2 v1 v6 v2_0 v2_1 v2_2 v4_0 v4_1 v5_0 v5_1 (K : KT ρ) : f112i N (f112c 587) f112p13 (f112s3 v5_2 v1 v6 v2_0 v2_1 v2_2 v4_0 v4_1 v5_0 v5_1) (joinK (some f112l3) K) =
  spec_l1Rename.Z13 N v5_2 v1 v6 v2_0 v2_1 v2_2 v4_0 v4_1 v5_0 v5_1 (fun v5_2 v1 v6 v2_0 v2_1 v2_2 v4_0 v4_1 v5_0 v5_1 => K .nrm (f112s3 v5_2 v1 v6 v2_0 v2_1 v2_2 v4_0 v4_1 v5_0 v5_1)) :=
 viaSeqS (fun k => spec_l1Rename.Z14 N v5_2 v1 v6 v2_0 v2_1 v2_2 v4_0 v4_1 v5_0 v5_1 k) (by kernel_rfl) (f112t14 N (K := seqK (fun σ => f112i N (f112c 1611) f112p15 σ (joinK (some f112l3) K)) (joinK (some f112l3) K)) ..) (fx11 fun v5_2 v1 v6 v7 v2_0 v2_1 v2_2 v4_0 v4_1 v5_0 v5_1 => f112t15 N v5_2 v1 v6 v7 v2_0 v2_1 v2_2 v4_0 v4_1 v5_0 v5_1 K) (by kernel_rfl)
noncomputable def f112p12 : Plan := .mk (some f112l3) none f112p13 .n
theorem f112t12 N v5_2 v1 v6 v2_0 v2_1 v2_2 v4_0 v4_1 v5_0 v5_1 (K : KT ρ) : f112i N (f112c 331) f112p12 (f112s3 v5_2 v1 v6 v2_0 v2_1 v2_2 v4_0 v4_1 v5_0 v5_1) (joinK (some f112l3) K) =
  spec_l1Rename.Z12 N v5_2 v1 v6 v2_0 v2_1 v2_2 v4_0 v4_1 v5_0 v5_1 (fun v5_2 v1 v6 v2_0 v2_1 v2_2 v4_0 v4_1 v5_0 v5_1 => K .nrm (f112s3 v5_2 v1 v6 v2_0 v2_1 v2_2 v4_0 v4_1 v5_0 v5_1)) :=
 viaBlockS (by kernel_rfl) (f112t13 N (K := blockK 1 (joinK (some f112l3) K)) ..) (by kernel_rfl)
theorem f112t22 N v5_2 v1 v6 v2_0 v2_1 v2_2 v4_0 v4_1 v5_0 v5_1 (K : KT ρ) : f112i N (f112c 459) .n (f112s3 v5_2 v1 v6 v2_0 v2_1 v2_2 v4_0 v4_1 v5_0 v5_1) (joinK (some f112l3) K) =
  spec_l1Rename.Z22 N v5_2 v1 v6 v2_0 v2_1 v2_2 v4_0 v4_1 v5_0 v5_1 (fun v5_2 v1 v6 v2_0 v2_1 v2_2 v4_0 v4_1 v5_0 v5_1 => K .nrm (f112s3 v5_2 v1 v6 v2_0 v2_1 v2_2 v4_0 v4_1 v5_0 v5_1)) := by kernel_rfl
noncomputable def f112p11 : Plan := .mk (some f112l3) none f112p12 .n
theorem f112t11 N v5_2 v1 v6 v2_0 v2_1 v2_2 v4_0 v4_1 v5_0 v5_1 (K : KT ρ) : f112i N (f112c 203) f112p11 (f112s3 v5_2 v1 v6 v2_0 v2_1 v2_2 v4_0 v4_1 v5_0 v5_1) (joinK (some f112l3) K) =
  spec_l1Rename.Z11 N v5_2 v1 v6 v2_0 v2_1 v2_2 v4_0 v4_1 v5_0 v5_1 (fun v5_2 v1 v6 v2_0 v2_1 v2_2 v4_0 v4_1 v5_0 v5_1 => K .nrm (f112s3 v5_2 v1 v6 v2_0 v2_1 v2_2 v4_0 v4_1 v5_0 v5_1)) :=
 viaSeqS (fun k => spec_l1Rename.Z12 N v5_2 v1 v6 v2_0 v2_1 v2_2 v4_0 v4_1 v5_0 v5_1 k) (by kernel_rfl) (f112t12 N (K := seqK (fun σ => f112i N (f112c 459) .n σ (joinK (some f112l3) K)) (joinK (some f112l3) K)) ..) (fx10 fun v5_2 v1 v6 v2_0 v2_1 v2_2 v4_0 v4_1 v5_0 v5_1 => f112t22 N v5_2 v1 v6 v2_0 v2_1 v2_2 v4_0 v4_1 v5_0 v5_1 K) (by kernel_rfl)
noncomputable def f112p9 : Plan := .mk (some f112l3) none .n f112p11
theorem f112t9 N v5_2 v1 v6 v2_0 v2_1 v2_2 v4_0 v4_1 v5_0 v5_1 (K : KT ρ) : f112i N (f112c 75) f112p9 (f112s3 v5_2 v1 v6 v2_0 v2_1 v2_2 v4_0 v4_1 v5_0 v5_1) (joinK (some f112l3) K) =
  spec_l1Rename.Z9 N v5_2 v1 v6 v2_0 v2_1 v2_2 v4_0 v4_1 v5_0 v5_1 (fun v5_2 v1 v6 v2_0 v2_1 v2_2 v4_0 v4_1 v5_0 v5_1 => K .nrm (f112s3 v5_2 v1 v6 v2_0 v2_1 v2_2 v4_0 v4_1 v5_0 v5_1)) (fun v5_2 v4_0 v4_1 v5_0 v5_1 => K (.exit 0) (f112s6 v5_2 v4_0 v4_1 v5_0 v5_1)) :=
 viaSeqS (fun k => spec_l1Rename.Z10 N v5_2 v1 v6 v2_0 v2_1 v2_2 v4_0 v4_1 v5_0 v5_1 k (fun v5_2 v4_0 v4_1 v5_0 v5_1 => K (.exit 0) (f112s6 v5_2 v4_0 v4_1 v5_0 v5_1))) (by kernel_rfl) (f112t10 N (K := seqK (fun σ => f112i N (f112c 203) f112p11 σ (joinK (some f112l3) K)) (joinK (some f112l3) K)) ..) (fx10 fun v5_2 v1 v6 v2_0 v2_1 v2_2 v4_0 v4_1 v5_0 v5_1 => f112t11 N v5_2 v1 v6 v2_0 v2_1 v2_2 v4_0 v4_1 v5_0 v5_1 K) (by kernel_rfl)
noncomputable def f112p8 : Plan := .mk none (some f112l3) f112p9 .n
noncomputable abbrev f112w8 {ρ : Type} (N M : Nat) (σ : St) (K : KT ρ) : Option ρ := loopC (fun σ K => f112i N (f112c 75) f112p9 σ K) f112l3 M σ K
theorem f112t8L {ρ : Type} (N : Nat) (K : KT ρ) : ∀ (M : Nat) (v5_2 v1 : LI) (v6 v2_0 v2_1 : Int) (v2_2 : LI) (v4_0 v4_1 v5_0 v5_1 : Int), f112w8 N M (f112s3 v5_2 v1 v6 v2_0 v2_1 v2_2 v4_0 v4_1 v5_0 v5_1) K =
  spec_l1Rename.Z8L N (fun v5_2 v4_0 v4_1 v5_0 v5_1 => K (.exit 0) (f112s6 v5_2 v4_0 v4_1 v5_0 v5_1)) M v5_2 v1 v6 v2_0 v2_1 v2_2 v4_0 v4_1 v5_0 v5_1
  | 0, _, _, _, _, _, _, _, _, _, _ => rfl
  | M + 1, v5_2, v1, v6, v2_0, v2_1, v2_2, v4_0, v4_1, v5_0, v5_1 => viaRoundS (fun k => spec_l1Rename.Z9 N v5_2 v1 v6 v2_0 v2_1 v2_2 v4_0 v4_1 v5_0 v5_1 k (fun v5_2 v4_0 v4_1 v5_0 v5_1 => K (.exit 0) (f112s6 v5_2 v4_0 v4_1 v5_0 v5_1))) (f112t9 N (K := seqK (fun σ => f112w8 N M σ K) K) ..) (fx10 fun v5_2 v1 v6 v2_0 v2_1 v2_2 v4_0 v4_1 v5_0 v5_1 => f112t8L N K M v5_2 v1 v6 v2_0 v2_1 v2_2 v4_0 v4_1 v5_0 v5_1) (by kernel_rfl)
theorem f112t8 N v5_2 v1 v6 v2_0 v2_1 v2_2 v4_0 v4_1 v5_0 v5_1 (K : KT ρ) : f112i N (f112c 43) f112p8 (f112s3 v5_2 v1 v6 v2_0 v2_1 v2_2 v4_0 v4_1 v5_0 v5_1) (joinK (some f112l6) K) =
  spec_l1Rename.Z8 N v5_2 v1 v6 v2_0 v2_1 v2_2 v4_0 v4_1 v5_0 v5_1 (fun v5_2 v4_0 v4_1 v5_0 v5_1 => K (.exit 0) (f112s6 v5_2 v4_0 v4_1 v5_0 v5_1)) :=
 viaLoopS (by kernel_rfl) (f112t8L N (joinK (some f112l6) K) N v5_2 v1 v6 v2_0 v2_1 v2_2 v4_0 v4_1 v5_0 v5_1) (by kernel_rfl)
noncomputable def f112p7 : Plan := .mk (some f112l6) none f112p8 .n
theorem f112t7 N v5_2 v1 v6 v2_0 v2_1 v2_2 v4_0 v4_1 v5_0 v5_1 (K : KT ρ) : f112i N (f112c 27) f112p7 (f112s3 v5_2 v1 v6 v2_0 v2_1 v2_2 v4_0 v4_1 v5_0 v5_1) (joinK (some f112l6) K) =
  spec_l1Rename.Z7 N v5_2 v1 v6 v2_0 v2_1 v2_2 v4_0 v4_1 v5_0 v5_1 (fun v5_2 v4_0 v4_1 v5_0 v5_1 => K .nrm (f112s6 v5_2 v4_0 v4_1 v5_0 v5_1)) :=
 viaBlockS (by kernel_rfl) (f112t8 N (K := blockK 0 (joinK (some f112l6) K)) ..) (by kernel_rfl)
noncomputable def f112p5 : Plan := .mk (some f112l3) none .n f112p7
theorem f112t5 N v5_2 v1 v2_0 v2_1 v2_2 v4_0 v4_1 v5_0 v5_1 (K : KT ρ) : f112i N (f112c 11) f112p5 (f112s2 v5_2 v1 v2_0 v2_1 v2_2 v4_0 v4_1 v5_0 v5_1) (joinK (some f112l6) K) =
  spec_l1Rename.Z5 N v5_2 v1 v2_0 v2_1 v2_2 v4_0 v4_1 v5_0 v5_1 (fun v5_2 v4_0 v4_1 v5_0 v5_1 => K .nrm (f112s6 v5_2 v4_0 v4_1 v5_0 v5_1)) :=
 viaSeqS (fun k => spec_l1Rename.Z6 N v5_2 v1 v2_0 v2_1 v2_2 v4_0 v4_1 v5_0 v5_1 k) (by kernel_rfl) (f112t6 N (K := seqK (fun σ => f112i N (f112c 27) f112p7 σ (joinK (some f112l6) K)) (joinK (some f112l6) K)) ..) (fx10 fun v5_2 v1 v6 v2_0 v2_1 v2_2 v4_0 v4_1 v5_0 v5_1 => f112t7 N v5_2 v1 v6 v2_0 v2_1 v2_2 v4_0 v4_1 v5_0 v5_1 K) (by kernel_rfl)
theorem f112t23 N v5_2 v4_0 v4_1 v5_0 v5_1 (K : KT ρ) : f112i N (f112c 15) .n (f112s6 v5_2 v4_0 v4_1 v5_0 v5_1) (joinK (some f112lE) K) =
  spec_l1Rename.Z23 N v5_2 v4_0 v4_1 v5_0 v5_1 (fun v4_2 v4_0 v4_1 => K .ret (f112s7 v4_2 v4_0 v4_1)) := by kernel_rfl
noncomputable def f112p4 : Plan := .mk (some f112l6) none f112p5 .n
theorem f112t4 N v5_2 v1 v2_0 v2_1 v2_2 v4_0 v4_1 v5_0 v5_1 (K : KT ρ) : f112i N (f112c 7) f112p4 (f112s2 v5_2 v1 v2_0 v2_1 v2_2 v4_0 v4_1 v5_0 v5_1) (joinK (some f112lE) K) =
  spec_l1Rename.Z4 N v5_2 v1 v2_0 v2_1 v2_2 v4_0 v4_1 v5_0 v5_1 (fun v4_2 v4_0 v4_1 => K .ret (f112s7 v4_2 v4_0 v4_1)) :=
 viaSeqS (fun k => spec_l1Rename.Z5 N v5_2 v1 v2_0 v2_1 v2_2 v4_0 v4_1 v5_0 v5_1 k) (by kernel_rfl) (f112t5 N (K := seqK (fun σ => f112i N (f112c 15) .n σ (joinK (some f112lE) K)) (joinK (some f112lE) K)) ..) (fx5 fun v5_2 v4_0 v4_1 v5_0 v5_1 => f112t23 N v5_2 v4_0 v4_1 v5_0 v5_1 K) (by kernel_rfl)
noncomputable def f112p2 : Plan := .mk (some f112l2) none .n f112p4
theorem f112t2 N v1 v2_0 v2_1 v2_2 v4_0 v4_1 (K : KT ρ) : f112i N (f112c 3) f112p2 (f112s1 v1 v2_0 v2_1 v2_2 v4_0 v4_1) (joinK (some f112lE) K) =
  spec_l1Rename.Z2 N v1 v2_0 v2_1 v2_2 v4_0 v4_1 (fun v4_2 v4_0 v4_1 => K .ret (f112s7 v4_2 v4_0 v4_1)) :=
 viaSeqS (fun k => spec_l1Rename.Z3 N v1 v2_0 v2_1 v2_2 v4_0 v4_1 k) (by kernel_rfl) (f112t3 N (K := seqK (fun σ => f112i N (f112c 7) f112p4 σ (joinK (some f112lE) K)) (joinK (some f112lE) K)) ..) (fx9 fun v5_2 v1 v2_0 v2_1 v2_2 v4_0 v4_1 v5_0 v5_1 => f112t4 N v5_2 v1 v2_0 v2_1 v2_2 v4_0 v4_1 v5_0 v5_1 K) (by kernel_rfl)
noncomputable def f112p0 : Plan := .mk (some f112l1) none .n f112p2
theorem f112t0 N v0 v1 (K : KT ρ) : f112i N (f112c 1) f112p0 (f112s0 v0 v1) (joinK (some f112lE) K) =
  spec_l1Rename.Z0 N v0 v1 (fun v4_2 v4_0 v4_1 => K .ret (f112s7 v4_2 v4_0 v4_1)) :=
 viaSeqS (fun k => spec_l1Rename.Z1 N v0 v1 k) (by kernel_rfl) (f112t1 N (K := seqK (fun σ => f112i N (f112c 3) f112p2 σ (joinK (some f112lE) K)) (joinK (some f112lE) K)) ..) (fx6 fun v1 v2_0 v2_1 v2_2 v4_0 v4_1 => f112t2 N v1 v2_0 v2_1 v2_2 v4_0 v4_1 K) (by kernel_rfl)
theorem f112m (N : Nat) (v0 : MT) (v1 : LI) : f112i N (f112c 1) f112p0 (f112s0 v0 v1) (joinK (some f112lE) (finK tab f112sig Try.f112.results.toList)) = spec_l1Rename.Z0 N v0 v1 (fun v4_2 v4_0 v4_1 => some ((), ((v4_0, (v4_1, v4_2)), ()))) :=
  (f112t0 N v0 v1 (finK tab f112sig Try.f112.results.toList)).trans (by kernel_rfl)
theorem f112ok (h : spec_l1Rename.Spec) : EntryOk Try.prog 112 e112 :=
  entry_of_code (sig := f112sig) (c := (f112c 1)) (pl := f112p0) (je := (some f112lE)) (B := f112B) Try.func112 (by kernel_rfl) (by kernel_rfl) (by kernel_rfl) tabOk f112GOk (by kernel_rfl) (by kernel_rfl) (by kernel_rfl) (by kernel_rfl) fun X hb hp => by
    obtain ⟨v0, v1, _⟩ := X
    obtain ⟨N, h⟩ := h v0 v1 hb.1 hb.2.1 hp
    exact ⟨N, (f112m N v0 v1).trans (h N (Nat.le_refl N))⟩
theorem e112ok : EntryOk Try.prog 112 e112 := f112ok spec_l1Rename.ok
end Go.Fw
namespace Go.Fw
variable {ρ : Type}
open Go.Proofs
noncomputable def f95sig : Sig := ⟨[⟨.sl 3 (.int .i64), false, false⟩, ⟨.sl 3 (.int .i64), false, false⟩], [⟨.bool, false, false⟩]⟩
noncomputable def e95 : Entry := ⟨f95sig, none, fun X => ((), ((spec_l1Less.g X.1 X.2.1), ()))⟩
noncomputable def f95G : Gm := emptyG
theorem f95GOk : GOk Try.prog f95G := GOk.nil
noncomputable def f95lE : Clean := ⟨[], [], [], [], []⟩
noncomputable def f95s0 (v0 v1 : LI) : St := initSt f95sig.ps (v0, (v1, ()))
noncomputable def f95s1 (v0 v1 : LI) : St := stOf [(0, .c (.sn 3 tI v0 none)), (1, .c (.sn 3 tI v1 none))] [] []
noncomputable def f95l1 : Clean := ⟨[0, 1], [], [], [], []⟩
noncomputable def f95s2 (v0 v1 : LI) (v5 : Int) : St := stOf [(0, .c (.sn 3 tI v0 none)), (1, .c (.sn 3 tI v1 none)), (5, xi v5)] [] []
noncomputable def f95l2 : Clean := ⟨[0, 1, 5], [], [], [], []⟩
noncomputable def f95s3 (v4 : Bool) : St := stOf [(4, xB v4)] [] []
noncomputable def f95l3 : Clean := ⟨[4], [], [], [], []⟩
noncomputable def f95B : Nat → Option Clean := lookL [(0, f95l1), (1000000, f95l3)]
noncomputable abbrev f95i {ρ : Type} (N : Nat) (c : Code) (p : Plan) (σ : St) (K : KT ρ) : Option ρ := iCode f95G tab f95B N c p σ K
noncomputable def f95c (n : Nat) : Code := codeN 99 (bodyOf Try.f95) n
theorem f95t1 N v0 v1 (K : KT ρ) : f95i N (f95c 2) .n (f95s0 v0 v1) (joinK (some f95l1) K) =
  spec_l1Less.Z1 N v0 v1 (fun v0 v1 => K .nrm (f95s1 v0 v1)) := by kernel_rfl
theorem f95t4 N v0 v1 (K : KT ρ) : f95i N (f95c 9) .n (f95s1 v0 v1) (joinK (some f95l2) K) =
  spec_l1Less.Z4 N v0 v1 (fun v0 v1 v5 => K .nrm (f95s2 v0 v1 v5)) := by kernel_rfl
theorem f95t7 N v0 v1 v5 (K : KT ρ) : f95i N (f95c 37) .n (f95s2 v0 v1 v5) (joinK (some f95l2) K) =
  spec_l1Less.Z7 N v0 v1 v5 (fun v0 v1 v5 => K .nrm (f95s2 v0 v1 v5)) (fun v0 v1 => K (.exit 0) (f95s1 v0 v1)) (fun v4 => K .ret (f95s3 v4)) := by kernel_rfl
noncomputable def f95p6 : Plan := .mk none (some f95l2) .n .n
noncomputable abbrev f95w6 {ρ : Type} (N M : Nat) (σ : St) (K : KT ρ) : Option ρ := loopC (fun σ K => f95i N (f95c 37) .n σ K) f95l2 M σ K
theorem f95t6L {ρ : Type} (N : Nat) (K : KT ρ) : ∀ (M : Nat) (v0 v1 : LI) (v5 : Int), f95w6 N M (f95s2 v0 v1 v5) K =
  spec_l1Less.Z6L N (fun v0 v1 => K (.exit 0) (f95s1 v0 v1)) (fun v4 => K .ret (f95s3 v4)) M v0 v1 v5
  | 0, _, _, _ => rfl
  | M + 1, v0, v1, v5 => viaRoundS (fun k => spec_l1Less.Z7 N v0 v1 v5 k (fun v0 v1 => K (.exit 0) (f95s1 v0 v1)) (fun v4 => K .ret (f95s3 v4))) (f95t7 N (K := seqK (fun σ => f95w6 N M σ K) K) ..) (fx3 fun v0 v1 v5 => f95t6L N K M v0 v1 v5) (by kernel_rfl)
theorem f95t6 N v0 v1 v5 (K : KT ρ) : f95i N (f95c 21) f95p6 (f95s2 v0 v1 v5) (joinK (some f95l1) K) =
  spec_l1Less.Z6 N v0 v1 v5 (fun v0 v1 => K (.exit 0) (f95s1 v0 v1)) (fun v4 => K .ret (f95s3 v4)) :=
 viaLoopS (by kernel_rfl) (f95t6L N (joinK (some f95l1) K) N v0 v1 v5) (by kernel_rfl)
noncomputable def f95p5 : Plan := .mk (some f95l1) none f95p6 .n
theorem f95t5 N v0 v1 v5 (K : KT ρ) : f95i N (f95c 13) f95p5 (f95s2 v0 v1 v5) (joinK (some f95l1) K) =
  spec_l1Less.Z5 N v0 v1 v5 (fun v0 v1 => K .nrm (f95s1 v0 v1)) (fun v4 => K .ret (f95s3 v4)) :=
 viaBlockS (by kernel_rfl) (f95t6 N (K := blockK 0 (joinK (some f95l1) K)) ..) (by kernel_rfl)
noncomputable def f95p3 : Plan := .mk (some f95l2) none .n f95p5
theorem f95t3 N v0 v1 (K : KT ρ) : f95i N (f95c 5) f95p3 (f95s1 v0 v1) (joinK (some f95l1) K) =
  spec_l1Less.Z3 N v0 v1 (fun v0 v1 => K .nrm (f95s1 v0 v1)) (fun v4 => K .ret (f95s3 v4)) :=
 viaSeqS (fun k => spec_l1Less.Z4 N v0 v1 k) (by kernel_rfl) (f95t4 N (K := seqK (fun σ => f95i N (f95c 13) f95p5 σ (joinK (some f95l1) K)) (joinK (some f95l1) K)) ..) (fx3 fun v0 v1 v5 => f95t5 N v0 v1 v5 K) (by kernel_rfl)
theorem f95t8 N v0 v1 (K : KT ρ) : f95i N (f95c 7) .n (f95s1 v0 v1) (joinK (some f95lE) K) =
  spec_l1Less.Z8 N v0 v1 (fun v4 => K .ret (f95s3 v4)) := by kernel_rfl
noncomputable def f95p2 : Plan := .mk (some f95l1) none f95p3 .n
theorem f95t2 N v0 v1 (K : KT ρ) : f95i N (f95c 3) f95p2 (f95s1 v0 v1) (joinK (some f95lE) K) =
  spec_l1Less.Z2 N v0 v1 (fun v4 => K .ret (f95s3 v4)) :=
 viaSeqS (fun k => spec_l1Less.Z3 N v0 v1 k (fun v4 => K .ret (f95s3 v4))) (by kernel_rfl) (f95t3 N (K := seqK (fun σ => f95i N (f95c 7) .n σ (joinK (some f95lE) K)) (joinK (some f95lE) K)) ..) (fx2 fun v0 v1 => f95t8 N v0 v1 K) (by kernel_rfl)
noncomputable def f95p0 : Plan := .mk (some f95l1) none .n f95p2
theorem f95t0 N v0 v1 (K : KT ρ) : f95i N (f95c 1) f95p0 (f95s0 v0 v1) (joinK (some f95lE) K) =
  spec_l1Less.Z0 N v0 v1 (fun v4 => K .ret (f95s3 v4)) :=
 viaSeqS (fun k => spec_l1Less.Z1 N v0 v1 k) (by kernel_rfl) (f95t1 N (K := seqK (fun σ => f95i N (f95c 3) f95p2 σ (joinK (some f95lE) K)) (joinK (some f95lE) K)) ..) (fx2 fun v0 v1 => f95t2 N v0 v1 K) (by kernel_rfl)
theorem f95m (N : Nat) (v0 v1 : LI) : f95i N (f95c 1) f95p0 (f95s0 v0 v1) (joinK (some f95lE) (finK tab f95sig Try.f95.results.toList)) = spec_l1Less.Z0 N v0 v1 (fun v4 => some ((), (v4, ()))) :=
  (f95t0 N v0 v1 (finK tab f95sig Try.f95.results.toList)).trans (by kernel_rfl)
theorem f95ok (h : spec_l1Less.Spec) : EntryOk Try.prog 95 e95 :=
  entry_of_code (sig := f95sig) (c := (f95c 1)) (pl := f95p0) (je := (some f95lE)) (B := f95B) Try.func95 (by kernel_rfl) (by kernel_rfl) (by kernel_rfl) tabOk f95GOk (by kernel_rfl) (by kernel_rfl) (by kernel_rfl) (by kernel_rfl) fun X hb hp => by
    obtain ⟨v0, v1, _⟩ := X
    obtain ⟨N, h⟩ := h v0 v1 hb.1 hb.2.1
    exact ⟨N, (f95m N v0 v1).trans (h N (Nat.le_refl N))⟩
theorem e95ok : EntryOk Try.prog 95 e95 := f95ok spec_l1Less.ok
end Go.Fw
namespace Go.Fw
variable {ρ : Type}
open Go.Proofs
noncomputable def f85sig : Sig := ⟨[⟨.pair (.int .i64) (.pair (.int .i64) (.sl 3 (.int .i64))), true, false⟩], [⟨.pair (.int .i64) (.pair (.int .i64) (.sl 3 (.int .i64))), true, false⟩]⟩
noncomputable def e85 : Entry := ⟨f85sig, (some fun X => spec_l1Canonical.P X.1), fun X => ((), ((spec_l1Canonical.g X.1), ()))⟩
noncomputable def f85G : Gm := addG (addM (addG (addG emptyG 95 e95) 102 e102) 111 e111) 112 e112
theorem f85GOk : GOk Try.prog f85G := ((((GOk.nil).add e95ok (by kernel_rfl)).add e102ok (by kernel_rfl)).addM e111ok (by kernel_rfl)).add e112ok (by kernel_rfl)
noncomputable def f85lE : Clean := ⟨[], [], [], [], []⟩
noncomputable def f85s0 (v0 : MT) : St := initSt f85sig.ps (v0, ())
noncomputable def f85s1 (v1_0 v1_1 : Int) (v1_2 : LI) (v2_0 v2_1 : Int) : St := stOf [(1, xb 1), (2, xb 2)] [(1, (30, [yi v1_0, yi v1_1, .sn 3 tI v1_2 none])), (2, (30, [yi v2_0, yi v2_1, .nil]))] []
noncomputable def f85l1 : Clean := ⟨[1, 2], [1, 2], [], [], []⟩
noncomputable def f85s2 (v3_2 : LI) (v1_0 v1_1 : Int) (v1_2 : LI) (v2_0 v2_1 v3_0 v3_1 : Int) : St := stOf [(1, xb 1), (2, xb 2), (3, xb 3)] [(1, (30, [yi v1_0, yi v1_1, .sn 3 tI v1_2 none])), (2, (30, [yi v2_0, yi v2_1, .nil])), (3, (30, [yi v3_0, yi v3_1, .own 20000194]))] [(20000194, (⟨3, .int .i64, v3_2, true, false⟩ : Row))]
noncomputable def f85l2 : Clean := ⟨[1, 2, 3], [1, 2, 3], [], [], [(⟨true, 3, 2⟩, 20000194)]⟩
noncomputable def f85s3 (v4 : LL) (v3_2 : LI) (v1_0 v1_1 : Int) (v1_2 : LI) (v2_0 v2_1 v3_0 v3_1 : Int) : St := stOf [(1, xb 1), (2, xb 2), (3, xb 3), (4, xo 1000256)] [(1, (30, [yi v1_0, yi v1_1, .sn 3 tI v1_2 none])), (2, (30, [yi v2_0, yi v2_1, .nil])), (3, (30, [yi v3_0, yi v3_1, .own 20000194]))] [(1000256, (⟨22, .sl 3 tI, v4, true, false⟩ : Row)), (20000194, (⟨3, .int .i64, v3_2, true, false⟩ : Row))]
noncomputable def f85l3 : Clean := ⟨[1, 2, 3, 4], [1, 2, 3], [], [], [(⟨false, 4, 0⟩, 1000256), (⟨true, 3, 2⟩, 20000194)]⟩
noncomputable def f85s4 (v4 : LL) (v3_2 : LI) (v5 v1_0 v1_1 : Int) (v1_2 : LI) (v2_0 v2_1 v3_0 v3_1 : Int) : St := stOf [(1, xb 1), (2, xb 2), (3, xb 3), (4, xo 1000256), (5, xi v5)] [(1, (30, [yi v1_0, yi v1_1, .sn 3 tI v1_2 none])), (2, (30, [yi v2_0, yi v2_1, .nil])), (3, (30, [yi v3_0, yi v3_1, .own 20000194]))] [(1000256, (⟨22, .sl 3 tI, v4, true, false⟩ : Row)), (20000194, (⟨3, .int .i64, v3_2, true, false⟩ : Row))]
noncomputable def f85l4 : Clean := ⟨[1, 2, 3, 4, 5], [1, 2, 3], [], [], [(⟨false, 4, 0⟩, 1000256), (⟨true, 3, 2⟩, 20000194)]⟩
noncomputable def f85s5 (v3_2 : LI) (v2_0 v2_1 v3_0 v3_1 : Int) : St := stOf [(2, xb 2), (3, xb 3)] [(2, (30, [yi v2_0, yi v2_1, .nil])), (3, (30, [yi v3_0, yi v3_1, .own 20000194]))] [(20000194, (⟨3, .int .i64, v3_2, true, false⟩ : Row))]
noncomputable def f85l5 : Clean := ⟨[2, 3], [2, 3], [], [], [(⟨true, 3, 2⟩, 20000194)]⟩
noncomputable def f85s6 (v2_2 : LI) (v2_0 v2_1 : Int) : St := stOf [(2, xb 2)] [(2, (30, [yi v2_0, yi v2_1, .own 20000130]))] [(20000130, (⟨3, .int .i64, v2_2, true, false⟩ : Row))]
noncomputable def f85l6 : Clean := ⟨[2], [2], [], [], [(⟨true, 2, 2⟩, 20000130)]⟩
noncomputable def f85B : Nat → Option Clean := lookL [(0, f85l5), (1000000, f85l6)]
noncomputable abbrev f85i {ρ : Type} (N : Nat) (c : Code) (p : Plan) (σ : St) (K : KT ρ) : Option ρ := iCode f85G tab f85B N c p σ K
noncomputable def f85c (n : Nat) : Code := codeN 99 (bodyOf Try.f85) n
theorem f85t1 N v0 (K : KT ρ) : f85i N (f85c 2) .n (f85s0 v0) (joinK (some f85l1) K) =
  spec_l1Canonical.Z1 N v0 (fun v1_0 v1_1 v1_2 v2_0 v2_1 => K .nrm (f85s1 v1_0 v1_1 v1_2 v2_0 v2_1)) := by kernel_rfl
theorem f85t3 N v1_0 v1_1 v1_2 v2_0 v2_1 (K : KT ρ) : f85i N (f85c 5) .n (f85s1 v1_0 v1_1 v1_2 v2_0 v2_1) (joinK (some f85l2) K) =
  spec_l1Canonical.Z3 N v1_0 v1_1 v1_2 v2_0 v2_1 (fun v3_2 v1_0 v1_1 v1_2 v2_0 v2_1 v3_0 v3_1 => K .nrm (f85s2 v3_2 v1_0 v1_1 v1_2 v2_0 v2_1 v3_0 v3_1)) := by kernel_rfl
theorem f85t5 N v3_2 v1_0 v1_1 v1_2 v2_0 v2_1 v3_0 v3_1 (K : KT ρ) : f85i N (f85c 11) .n (f85s2 v3_2 v1_0 v1_1 v1_2 v2_0 v2_1 v3_0 v3_1) (joinK (some f85l3) K) =
  spec_l1Canonical.Z5 N v3_2 v1_0 v1_1 v1_2 v2_0 v2_1 v3_0 v3_1 (fun v4 v3_2 v1_0 v1_1 v1_2 v2_0 v2_1 v3_0 v3_1 => K .nrm (f85s3 v4 v3_2 v1_0 v1_1 v1_2 v2_0 v2_1 v3_0 v3_1)) := by kernel_rfl
theorem f85t8 N v4 v3_2 v1_0 v1_1 v1_2 v2_0 v2_1 v3_0 v3_1 (K : KT ρ) : f85i N (f85c 39) .n (f85s3 v4 v3_2 v1_0 v1_1 v1_2 v2_0 v2_1 v3_0 v3_1) (joinK (some f85l4) K) =
  spec_l1Canonical.Z8 N v4 v3_2 v1_0 v1_1 v1_2 v2_0 v2_1 v3_0 v3_1 (fun v4 v3_2 v5 v1_0 v1_1 v1_2 v2_0 v2_1 v3_0 v3_1 => K .nrm (f85s4 v4 v3_2 v5 v1_0 v1_1 v1_2 v2_0 v2_1 v3_0 v3_1)) := by kernel_rfl
theorem f85t11 N v4 v3_2 v5 v1_0 v1_1 v1_2 v2_0 v2_1 v3_0 v3_1 (K : KT ρ) : f85i N (f85c 151) .n (f85s4 v4 v3_2 v5 v1_0 v1_1 v1_2 v2_0 v2_1 v3_0 v3_1) (joinK (some f85l4) K) =
  spec_l1Canonical.Z11 N v4 v3_2 v5 v1_0 v1_1 v1_2 v2_0 v2_1 v3_0 v3_1 (fun v4 v3_2 v5 v1_0 v1_1 v1_2 v2_0 v2_1 v3_0 v3_1 => K .nrm (f85s4 v4 v3_2 v5 v1_0 v1_1 v1_2 v2_0 v2_1 v3_0 v3_1)) (fun v3_2 v2_0 v2_1 v3_0 v3_1 => K (.exit 0) (f85s5 v3_2 v2_0 v2_1 v3_0 v3_1)) := by kernel_rfl
noncomputable def f85p10 : Plan := .mk none (some f85l4) .n .n
noncomputable abbrev f85w10 {ρ : Type} (N M : Nat) (σ : St) (K : KT ρ) : Option ρ := loopC (fun σ K => f85i N (f85c 151) .n σ K) f85l4 M σ K
theorem f85t10L {ρ : Type} (N : Nat) (K : KT ρ) : ∀ (M : Nat) (v4 : LL) (v3_2 : LI) (v5 v1_0 v1_1 : Int) (v1_2 : LI) (v2_0 v2_1 v3_0 v3_1 : Int), f85w10 N M (f85s4 v4 v3_2 v5 v1_0 v1_1 v1_2 v2_0 v2_1 v3_0 v3_1) K =
  spec_l1Canonical.Z10L N (fun v3_2 v2_0 v2_1 v3_0 v3_1 => K (.exit 0) (f85s5 v3_2 v2_0 v2_1 v3_0 v3_1)) M v4 v3_2 v5 v1_0 v1_1 v1_2 v2_0 v2_1 v3_0 v3_1
  | 0, _, _, _, _, _, _, _, _, _, _ => rfl
  | M + 1, v4, v3_2, v5, v1_0, v1_1, v1_2, v2_0, v2_1, v3_0, v3_1 => viaRoundS (fun k => spec_l1Canonical.Z11 N v4 v3_2 v5 v1_0 v1_1 v1_2 v2_0 v2_1 v3_0 v3_1 k (fun v3_2 v2_0 v2_1 v3_0 v3_1 => K (.exit 0) (f85s5 v3_2 v2_0 v2_1 v3_0 v3_1))) (f85t11 N (K := seqK (fun σ => f85w10 N M σ K) K) ..) (fx10 fun v4 v3_2 v5 v1_0 v1_1 v1_2 v2_0 v2_1 v3_0 v3_1 => f85t10L N K M v4 v3_2 v5 v1_0 v1_1 v1_2 v2_0 v2_1 v3_0 v3_1) (by kernel_rfl)
theorem f85t10 N v4 v3_2 v5 v1_0 v1_1 v1_2 v2_0 v2_1 v3_0 v3_1 (K : KT ρ) : f85i N (f85c 87) f85p10 (f85s4 v4 v3_2 v5 v1_0 v1_1 v1_2 v2_0 v2_1 v3_0 v3_1) (joinK (some f85l5) K) =
  spec_l1Canonical.Z10 N v4 v3_2 v5 v1_0 v1_1 v1_2 v2_0 v2_1 v3_0 v3_1 (fun v3_2 v2_0 v2_1 v3_0 v3_1 => K (.exit 0) (f85s5 v3_2 v2_0 v2_1 v3_0 v3_1)) :=
 viaLoopS (by kernel_rfl) (f85t10L N (joinK (some f85l5) K) N v4 v3_2 v5 v1_0 v1_1 v1_2 v2_0 v2_1 v3_0 v3_1) (by kernel_rfl)
noncomputable def f85p9 : Plan := .mk (some f85l5) none f85p10 .n
theorem f85t9 N v4 v3_2 v5 v1_0 v1_1 v1_2 v2_0 v2_1 v3_0 v3_1 (K : KT ρ) : f85i N (f85c 55) f85p9 (f85s4 v4 v3_2 v5 v1_0 v1_1 v1_2 v2_0 v2_1 v3_0 v3_1) (joinK (some f85l5) K) =
  spec_l1Canonical.Z9 N v4 v3_2 v5 v1_0 v1_1 v1_2 v2_0 v2_1 v3_0 v3_1 (fun v3_2 v2_0 v2_1 v3_0 v3_1 => K .nrm (f85s5 v3_2 v2_0 v2_1 v3_0 v3_1)) :=
 viaBlockS (by kernel_rfl) (f85t10 N (K := blockK 0 (joinK (some f85l5) K)) ..) (by kernel_rfl)
noncomputable def f85p7 : Plan := .mk (some f85l4) none .n f85p9
theorem f85t7 N v4 v3_2 v1_0 v1_1 v1_2 v2_0 v2_1 v3_0 v3_1 (K : KT ρ) : f85i N (f85c 23) f85p7 (f85s3 v4 v3_2 v1_0 v1_1 v1_2 v2_0 v2_1 v3_0 v3_1) (joinK (some f85l5) K) =
  spec_l1Canonical.Z7 N v4 v3_2 v1_0 v1_1 v1_2 v2_0 v2_1 v3_0 v3_1 (fun v3_2 v2_0 v2_1 v3_0 v3_1 => K .nrm (f85s5 v3_2 v2_0 v2_1 v3_0 v3_1)) :=
 viaSeqS (fun k => spec_l1Canonical.Z8 N v4 v3_2 v1_0 v1_1 v1_2 v2_0 v2_1 v3_0 v3_1 k) (by kernel_rfl) (f85t8 N (K := seqK (fun σ => f85i N (f85c 55) f85p9 σ (joinK (some f85l5) K)) (joinK (some f85l5) K)) ..) (fx10 fun v4 v3_2 v5 v1_0 v1_1 v1_2 v2_0 v2_1 v3_0 v3_1 => f85t9 N v4 v3_2 v5 v1_0 v1_1 v1_2 v2_0 v2_1 v3_0 v3_1 K) (by kernel_rfl)
theorem f85t12 N v3_2 v2_0 v2_1 v3_0 v3_1 (K : KT ρ) : f85i N (f85c 31) .n (f85s5 v3_2 v2_0 v2_1 v3_0 v3_1) (joinK (some f85lE) K) =
  spec_l1Canonical.Z12 N v3_2 v2_0 v2_1 v3_0 v3_1 (fun v2_2 v2_0 v2_1 => K .ret (f85s6 v2_2 v2_0 v2_1)) := by kernel_rfl
noncomputable def f85p6 : Plan := .mk (some f85l5) none f85p7 .n
theorem f85t6 N v4 v3_2 v1_0 v1_1 v1_2 v2_0 v2_1 v3_0 v3_1 (K : KT ρ) : f85i N (f85c 15) f85p6 (f85s3 v4 v3_2 v1_0 v1_1 v1_2 v2_0 v2_1 v3_0 v3_1) (joinK (some f85lE) K) =
  spec_l1Canonical.Z6 N v4 v3_2 v1_0 v1_1 v1_2 v2_0 v2_1 v3_0 v3_1 (fun v2_2 v2_0 v2_1 => K .ret (f85s6 v2_2 v2_0 v2_1)) :=
 viaSeqS (fun k => spec_l1Canonical.Z7 N v4 v3_2 v1_0 v1_1 v1_2 v2_0 v2_1 v3_0 v3_1 k) (by kernel_rfl) (f85t7 N (K := seqK (fun σ => f85i N (f85c 31) .n σ (joinK (some f85lE) K)) (joinK (some f85lE) K)) ..) (fx5 fun v3_2 v2_0 v2_1 v3_0 v3_1 => f85t12 N v3_2 v2_0 v2_1 v3_0 v3_1 K) (by kernel_rfl)
noncomputable def f85p4 : Plan := .mk (some f85l3) none .n f85p6
theorem f85t4 N v3_2 v1_0 v1_1 v1_2 v2_0 v2_1 v3_0 v3_1 (K : KT ρ) : f85i N (f85c 7) f85p4 (f85s2 v3_2 v1_0 v1_1 v1_2 v2_0 v2_1 v3_0 v3_1) (joinK (some f85lE) K) =
  spec_l1Canonical.Z4 N v3_2 v1_0 v1_1 v1_2 v2_0 v2_1 v3_0 v3_1 (fun v2_2 v2_0 v2_1 => K .ret (f85s6 v2_2 v2_0 v2_1)) :=
 viaSeqS (fun k => spec_l1Canonical.Z5 N v3_2 v1_0 v1_1 v1_2 v2_0 v2_1 v3_0 v3_1 k) (by kernel_rfl) (f85t5 N (K := seqK (fun σ => f85i N (f85c 15) f85p6 σ (joinK (some f85lE) K)) (joinK (some f85lE) K)) ..) (fx9 fun v4 v3_2 v1_0 v1_1 v1_2 v2_0 v2_1 v3_0 v3_1 => f85t6 N v4 v3_2 v1_0 v1_1 v1_2 v2_0 v2_1 v3_0 v3_1 K) (by kernel_rfl)
noncomputable def f85p2 : Plan := .mk (some f85l2) none .n f85p4
theorem f85t2 N v1_0 v1_1 v1_2 v2_0 v2_1 (K : KT ρ) : f85i N (f85c 3) f85p2 (f85s1 v1_0 v1_1 v1_2 v2_0 v2_1) (joinK (some f85lE) K) =
  spec_l1Canonical.Z2 N v1_0 v1_1 v1_2 v2_0 v2_1 (fun v2_2 v2_0 v2_1 => K .ret (f85s6 v2_2 v2_0 v2_1)) :=
 viaSeqS (fun k => spec_l1Canonical.Z3 N v1_0 v1_1 v1_2 v2_0 v2_1 k) (by kernel_rfl) (f85t3 N (K := seqK (fun σ => f85i N (f85c 7) f85p4 σ (joinK (some f85lE) K)) (joinK (some f85lE) K)) ..) (fx8 fun v3_2 v1_0 v1_1 v1_2 v2_0 v2_1 v3_0 v3_1 => f85t4 N v3_2 v1_0 v1_1 v1_2 v2_0 v2_1 v3_0 v3_1 K) (by kernel_rfl)
noncomputable def f85p0 : Plan := .mk (some f85l1) none .n f85p2
theorem f85t0 N v0 (K : KT ρ) : f85i N (f85c 1) f85p0 (f85s0 v0) (joinK (some f85lE) K) =
  spec_l1Canonical.Z0 N v0 (fun v2_2 v2_0 v2_1 => K .ret (f85s6 v2_2 v2_0 v2_1)) :=
 viaSeqS (fun k => spec_l1Canonical.Z1 N v0 k) (by kernel_rfl) (f85t1 N (K := seqK (fun σ => f85i N (f85c 3) f85p2 σ (joinK (some f85lE) K)) (joinK (some f85lE) K)) ..) (fx5 fun v1_0 v1_1 v1_2 v2_0 v2_1 => f85t2 N v1_0 v1_1 v1_2 v2_0 v2_1 K) (by kernel_rfl)
theorem f85m (N : Nat) (v0 : MT) : f85i N (f85c 1) f85p0 (f85s0 v0) (joinK (some f85lE) (finK tab f85sig Try.f85.results.toList)) = spec_l1Canonical.Z0 N v0 (fun v2_2 v2_0 v2_1 => some ((), ((v2_0, (v2_1, v2_2)), ()))) :=
  (f85t0 N v0 (finK tab f85sig Try.f85.results.toList)).trans (by kernel_rfl)
theorem f85ok (h : spec_l1Canonical.Spec) : EntryOk Try.prog 85 e85 :=
  entry_of_code (sig := f85sig) (c := (f85c 1)) (pl := f85p0) (je := (some f85lE)) (B := f85B) Try.func85 (by kernel_rfl) (by kernel_rfl) (by kernel_rfl) tabOk f85GOk (by kernel_rfl) (by kernel_rfl) (by kernel_rfl) (by kernel_rfl) fun X hb hp => by
    obtain ⟨v0, _⟩ := X
    obtain ⟨N, h⟩ := h v0 hb.1 hp
    exact ⟨N, (f85m N v0).trans (h N (Nat.le_refl N))⟩
theorem e85ok : EntryOk Try.prog 85 e85 := f85ok spec_l1Canonical.ok
end Go.Fw
namespace Go.Fw
variable {ρ : Type}
open Go.Proofs
noncomputable def f42sig : Sig := ⟨[⟨.pair (.int .i64) (.pair (.int .i64) (.sl 3 (.int .i64))), true, false⟩], [⟨.pair (.int .i64) (.pair (.int .i64) (.sl 3 (.int .i64))), true, false⟩, ⟨.bool, false, false⟩]⟩
noncomputable def e42 : Entry := ⟨f42sig, none, fun X => ((), ((spec_CanonicalMatrix.g X.1).1, ((spec_CanonicalMatrix.g X.1).2, ())))⟩
noncomputable def f42G : Gm := addG (addG emptyG 51 e51) 85 e85
theorem f42GOk : GOk Try.prog f42G := ((GOk.nil).add e51ok (by kernel_rfl)).add e85ok (by kernel_rfl)
noncomputable def f42lE : Clean := ⟨[], [], [], [], []⟩
noncomputable def f42s0 (v0 : MT) : St := initSt f42sig.ps (v0, ())
noncomputable def f42s1 (v2_2 : LI) (v3 : Bool) (v2_0 v2_1 : Int) : St := stOf [(2, xb 2), (3, xB v3)] [(2, (30, [yi v2_0, yi v2_1, .own 20000130]))] [(20000130, (⟨3, .int .i64, v2_2, true, false⟩ : Row))]
noncomputable def f42l1 : Clean := ⟨[2, 3], [2], [⟨⟨true, 2, 2⟩, 30000000, 3, .int .i64, true⟩], [], [(⟨true, 2, 2⟩, 20000130)]⟩
noncomputable def f42B : Nat → Option Clean := lookL [(1000000, f42l1)]
noncomputable abbrev f42i {ρ : Type} (N : Nat) (c : Code) (p : Plan) (σ : St) (K : KT ρ) : Option ρ := iCode f42G tab f42B N c p σ K
noncomputable def f42c (n : Nat) : Code := codeN 99 (bodyOf Try.f42) n
theorem f42t0 N v0 (K : KT ρ) : f42i N (f42c 1) .n (f42s0 v0) (joinK (some f42lE) K) =
  spec_CanonicalMatrix.Z0 N v0 (fun v2_2 v3 v2_0 v2_1 => K .ret (f42s1 v2_2 v3 v2_0 v2_1)) := by kernel_rfl
theorem f42m (N : Nat) (v0 : MT) : f42i N (f42c 1) .n (f42s0 v0) (joinK (some f42lE) (finK tab f42sig Try.f42.results.toList)) = spec_CanonicalMatrix.Z0 N v0 (fun v2_2 v3 v2_0 v2_1 => some ((), ((v2_0, (v2_1, v2_2)), (v3, ())))) :=
  (f42t0 N v0 (finK tab f42sig Try.f42.results.toList)).trans (by kernel_rfl)
theorem f42ok (h : spec_CanonicalMatrix.Spec) : EntryOk Try.prog 42 e42 :=
  entry_of_code (sig := f42sig) (c := (f42c 1)) (pl := .n) (je := (some f42lE)) (B := f42B) Try.func42 (by kernel_rfl) (by kernel_rfl) (by kernel_rfl) tabOk f42GOk (by kernel_rfl) (by kernel_rfl) (by kernel_rfl) (by kernel_rfl) fun X hb hp => by
    obtain ⟨v0, _⟩ := X
    obtain ⟨N, h⟩ := h v0 hb.1
    exact ⟨N, (f42m N v0).trans (h N (Nat.le_refl N))⟩
theorem e42ok : EntryOk Try.prog 42 e42 := f42ok spec_CanonicalMatrix.ok
end Go.Fw
namespace Go.Fw
variable {ρ : Type}
open Go.Proofs
noncomputable def f88sig : Sig := ⟨[⟨.sl 3 (.int .i64), false, false⟩, ⟨.sl 3 (.int .i64), false, false⟩], [⟨.bool, false, false⟩]⟩
noncomputable def e88 : Entry := ⟨f88sig, none, fun X => ((), ((spec_l1Same.g X.1 X.2.1), ()))⟩
noncomputable def f88G : Gm := emptyG
theorem f88GOk : GOk Try.prog f88G := GOk.nil
noncomputable def f88lE : Clean := ⟨[], [], [], [], []⟩
noncomputable def f88s0 (v0 v1 : LI) : St := initSt f88sig.ps (v0, (v1, ()))
noncomputable def f88s1 (v0 v1 : LI) : St := stOf [(0, .c (.sn 3 tI v0 none)), (1, .c (.sn 3 tI v1 none))] [] []
noncomputable def f88l1 : Clean := ⟨[0, 1], [], [], [], []⟩
noncomputable def f88s2 (v0 v1 : LI) (v5 : Int) : St := stOf [(0, .c (.sn 3 tI v0 none)), (1, .c (.sn 3 tI v1 none)), (5, xi v5)] [] []
noncomputable def f88l2 : Clean := ⟨[0, 1, 5], [], [], [], []⟩
noncomputable def f88s3  : St := stOf [] [] []
noncomputable def f88l3 : Clean := ⟨[], [], [], [], []⟩
noncomputable def f88s4 (v4 : Bool) : St := stOf [(4, xB v4)] [] []
noncomputable def f88l4 : Clean := ⟨[4], [], [], [], []⟩
noncomputable def f88B : Nat → Option Clean := lookL [(0, f88l3), (1000000, f88l4)]
noncomputable abbrev f88i {ρ : Type} (N : Nat) (c : Code) (p : Plan) (σ : St) (K : KT ρ) : Option ρ := iCode f88G tab f88B N c p σ K
noncomputable def f88c (n : Nat) : Code := codeN 99 (bodyOf Try.f88) n
theorem f88t1 N v0 v1 (K : KT ρ) : f88i N (f88c 2) .n (f88s0 v0 v1) (joinK (some f88l1) K) =
  spec_l1Same.Z1 N v0 v1 (fun v0 v1 => K .nrm (f88s1 v0 v1)) := by kernel_rfl
theorem f88t3 N v0 v1 (K : KT ρ) : f88i N (f88c 5) .n (f88s1 v0 v1) (joinK (some f88l1) K) =
  spec_l1Same.Z3 N v0 v1 (fun v0 v1 => K .nrm (f88s1 v0 v1)) (fun v4 => K .ret (f88s4 v4)) := by kernel_rfl
theorem f88t6 N v0 v1 (K : KT ρ) : f88i N (f88c 19) .n (f88s1 v0 v1) (joinK (some f88l2) K) =
  spec_l1Same.Z6 N v0 v1 (fun v0 v1 v5 => K .nrm (f88s2 v0 v1 v5)) := by kernel_rfl
theorem f88t9 N v0 v1 v5 (K : KT ρ) : f88i N (f88c 75) .n (f88s2 v0 v1 v5) (joinK (some f88l2) K) =
  spec_l1Same.Z9 N v0 v1 v5 (fun v0 v1 v5 => K .nrm (f88s2 v0 v1 v5)) (K (.exit 0) f88s3) (fun v4 => K .ret (f88s4 v4)) := by kernel_rfl
noncomputable def f88p8 : Plan := .mk none (some f88l2) .n .n
noncomputable abbrev f88w8 {ρ : Type} (N M : Nat) (σ : St) (K : KT ρ) : Option ρ := loopC (fun σ K => f88i N (f88c 75) .n σ K) f88l2 M σ K
theorem f88t8L {ρ : Type} (N : Nat) (K : KT ρ) : ∀ (M : Nat) (v0 v1 : LI) (v5 : Int), f88w8 N M (f88s2 v0 v1 v5) K =
  spec_l1Same.Z8L N (K (.exit 0) f88s3) (fun v4 => K .ret (f88s4 v4)) M v0 v1 v5
  | 0, _, _, _ => rfl
  | M + 1, v0, v1, v5 => viaRoundS (fun k => spec_l1Same.Z9 N v0 v1 v5 k (K (.exit 0) f88s3) (fun v4 => K .ret (f88s4 v4))) (f88t9 N (K := seqK (fun σ => f88w8 N M σ K) K) ..) (fx3 fun v0 v1 v5 => f88t8L N K M v0 v1 v5) (by kernel_rfl)
theorem f88t8 N v0 v1 v5 (K : KT ρ) : f88i N (f88c 43) f88p8 (f88s2 v0 v1 v5) (joinK (some f88l3) K) =
  spec_l1Same.Z8 N v0 v1 v5 (K (.exit 0) f88s3) (fun v4 => K .ret (f88s4 v4)) :=
 viaLoopS (by kernel_rfl) (f88t8L N (joinK (some f88l3) K) N v0 v1 v5) (by kernel_rfl)
noncomputable def f88p7 : Plan := .mk (some f88l3) none f88p8 .n
theorem f88t7 N v0 v1 v5 (K : KT ρ) : f88i N (f88c 27) f88p7 (f88s2 v0 v1 v5) (joinK (some f88l3) K) =
  spec_l1Same.Z7 N v0 v1 v5 (K .nrm f88s3) (fun v4 => K .ret (f88s4 v4)) :=
 viaBlockS (by kernel_rfl) (f88t8 N (K := blockK 0 (joinK (some f88l3) K)) ..) (by kernel_rfl)
noncomputable def f88p5 : Plan := .mk (some f88l2) none .n f88p7
theorem f88t5 N v0 v1 (K : KT ρ) : f88i N (f88c 11) f88p5 (f88s1 v0 v1) (joinK (some f88l3) K) =
  spec_l1Same.Z5 N v0 v1 (K .nrm f88s3) (fun v4 => K .ret (f88s4 v4)) :=
 viaSeqS (fun k => spec_l1Same.Z6 N v0 v1 k) (by kernel_rfl) (f88t6 N (K := seqK (fun σ => f88i N (f88c 27) f88p7 σ (joinK (some f88l3) K)) (joinK (some f88l3) K)) ..) (fx3 fun v0 v1 v5 => f88t7 N v0 v1 v5 K) (by kernel_rfl)
theorem f88t10 N  (K : KT ρ) : f88i N (f88c 15) .n f88s3 (joinK (some f88lE) K) =
  spec_l1Same.Z10 N (fun v4 => K .ret (f88s4 v4)) := by kernel_rfl
noncomputable def f88p4 : Plan := .mk (some f88l3) none f88p5 .n
theorem f88t4 N v0 v1 (K : KT ρ) : f88i N (f88c 7) f88p4 (f88s1 v0 v1) (joinK (some f88lE) K) =
  spec_l1Same.Z4 N v0 v1 (fun v4 => K .ret (f88s4 v4)) :=
 viaSeqS (fun k => spec_l1Same.Z5 N v0 v1 k (fun v4 => K .ret (f88s4 v4))) (by kernel_rfl) (f88t5 N (K := seqK (fun σ => f88i N (f88c 15) .n σ (joinK (some f88lE) K)) (joinK (some f88lE) K)) ..) (f88t10 N K) (by kernel_rfl)
noncomputable def f88p2 : Plan := .mk (some f88l1) none .n f88p4
theorem f88t2 N v0 v1 (K : KT ρ) : f88i N (f88c 3) f88p2 (f88s1 v0 v1) (joinK (some f88lE) K) =
  spec_l1Same.Z2 N v0 v1 (fun v4 => K .ret (f88s4 v4)) :=
 viaSeqS (fun k => spec_l1Same.Z3 N v0 v1 k (fun v4 => K .ret (f88s4 v4))) (by kernel_rfl) (f88t3 N (K := seqK (fun σ => f88i N (f88c 7) f88p4 σ (joinK (some f88lE) K)) (joinK (some f88lE) K)) ..) (fx2 fun v0 v1 => f88t4 N v0 v1 K) (by kernel_rfl)
noncomputable def f88p0 : Plan := .mk (some f88l1) none .n f88p2
theorem f88t0 N v0 v1 (K : KT ρ) : f88i N (f88c 1) f88p0 (f88s0 v0 v1) (joinK (some f88lE) K) =
  spec_l1Same.Z0 N v0 v1 (fun v4 => K .ret (f88s4 v4)) :=
 viaSeqS (fun k => spec_l1Same.Z1 N v0 v1 k) (by kernel_rfl) (f88t1 N (K := seqK (fun σ => f88i N (f88c 3) f88p2 σ (joinK (some f88lE) K)) (joinK (some f88lE) K)) ..) (fx2 fun v0 v1 => f88t2 N v0 v1 K) (by kernel_rfl)
theorem f88m (N : Nat) (v0 v1 : LI) : f88i N (f88c 1) f88p0 (f88s0 v0 v1) (joinK (some f88lE) (finK tab f88sig Try.f88.results.toList)) = spec_l1Same.Z0 N v0 v1 (fun v4 => some ((), (v4, ()))) :=
  (f88t0 N v0 v1 (finK tab f88sig Try.f88.results.toList)).trans (by kernel_rfl)
theorem f88ok (h : spec_l1Same.Spec) : EntryOk Try.prog 88 e88 :=
  entry_of_code (sig := f88sig) (c := (f88c 1)) (pl := f88p0) (je := (some f88lE)) (B := f88B) Try.func88 (by kernel_rfl) (by kernel_rfl) (by kernel_rfl) tabOk f88GOk (by kernel_rfl) (by kernel_rfl) (by kernel_rfl) (by kernel_rfl) fun X hb hp => by
    obtain ⟨v0, v1, _⟩ := X
    obtain ⟨N, h⟩ := h v0 v1 hb.1 hb.2.1
    exact ⟨N, (f88m N v0 v1).trans (h N (Nat.le_refl N))⟩
theorem e88ok : EntryOk Try.prog 88 e88 := f88ok spec_l1Same.ok
end Go.Fw
namespace Go.Fw
variable {ρ : Type}
open Go.Proofs
noncomputable def f45sig : Sig := ⟨[⟨.pair (.int .i64) (.pair (.int .i64) (.sl 3 (.int .i64))), true, false⟩, ⟨.pair (.int .i64) (.pair (.int .i64) (.sl 3 (.int .i64))), true, false⟩], [⟨.bool, false, false⟩]⟩
noncomputable def e45 : Entry := ⟨f45sig, none, fun X => ((), ((spec_AreAlike.g X.1 X.2.1), ()))⟩
noncomputable def f45G : Gm := addG (addG emptyG 42 e42) 88 e88
theorem f45GOk : GOk Try.prog f45G := ((GOk.nil).add e42ok (by kernel_rfl)).add e88ok (by kernel_rfl)
noncomputable def f45lE : Clean := ⟨[], [], [], [], []⟩
noncomputable def f45s0 (v0 v1 : MT) : St := initSt f45sig.ps (v0, (v1, ()))
noncomputable def f45s1 (v4 : Bool) : St := stOf [(4, xB v4)] [] []
noncomputable def f45l1 : Clean := ⟨[4], [], [], [], []⟩
noncomputable def f45B : Nat → Option Clean := lookL [(1000000, f45l1)]
noncomputable abbrev f45i {ρ : Type} (N : Nat) (c : Code) (p : Plan) (σ : St) (K : KT ρ) : Option ρ := iCode f45G tab f45B N c p σ K
noncomputable def f45c (n : Nat) : Code := codeN 99 (bodyOf Try.f45) n
theorem f45t0 N v0 v1 (K : KT ρ) : f45i N (f45c 1) .n (f45s0 v0 v1) (joinK (some f45lE) K) =
  spec_AreAlike.Z0 N v0 v1 (fun v4 => K .ret (f45s1 v4)) := by kernel_rfl
theorem f45m (N : Nat) (v0 v1 : MT) : f45i N (f45c 1) .n (f45s0 v0 v1) (joinK (some f45lE) (finK tab f45sig Try.f45.results.toList)) = spec_AreAlike.Z0 N v0 v1 (fun v4 => some ((), (v4, ()))) :=
  (f45t0 N v0 v1 (finK tab f45sig Try.f45.results.toList)).trans (by kernel_rfl)
theorem f45ok (h : spec_AreAlike.Spec) : EntryOk Try.prog 45 e45 :=
  entry_of_code (sig := f45sig) (c := (f45c 1)) (pl := .n) (je := (some f45lE)) (B := f45B) Try.func45 (by kernel_rfl) (by kernel_rfl) (by kernel_rfl) tabOk f45GOk (by kernel_rfl) (by kernel_rfl) (by kernel_rfl) (by kernel_rfl) fun X hb hp => by
    obtain ⟨v0, v1, _⟩ := X
    obtain ⟨N, h⟩ := h v0 v1 hb.1 hb.2.1
    exact ⟨N, (f45m N v0 v1).trans (h N (Nat.le_refl N))⟩
theorem e45ok : EntryOk Try.prog 45 e45 := f45ok spec_AreAlike.ok
end Go.Fw
namespace Go.Fw
variable {ρ : Type}
open Go.Proofs
noncomputable def f70sig : Sig := ⟨[⟨.int .i64, false, false⟩, ⟨.int .i64, false, false⟩, ⟨.int .i64, false, false⟩], [⟨.bool, false, false⟩]⟩
noncomputable def e70 : Entry := ⟨f70sig, none, fun X => ((), ((impl_within.g X.1 X.2.1 X.2.2.1), ()))⟩
noncomputable def f70G : Gm := emptyG
theorem f70GOk : GOk Try.prog f70G := GOk.nil
noncomputable def f70lE : Clean := ⟨[], [], [], [], []⟩
noncomputable def f70s0 (v0 v1 v2 : Int) : St := initSt f70sig.ps (v0, (v1, (v2, ())))
noncomputable def f70s1 (v6 : Bool) : St := stOf [(6, xB v6)] [] []
noncomputable def f70l1 : Clean := ⟨[6], [], [], [], []⟩
noncomputable def f70B : Nat → Option Clean := lookL [(1000000, f70l1)]
noncomputable abbrev f70i {ρ : Type} (N : Nat) (c : Code) (p : Plan) (σ : St) (K : KT ρ) : Option ρ := iCode f70G tab f70B N c p σ K
noncomputable def f70c (n : Nat) : Code := codeN 99 (bodyOf Try.f70) n
theorem f70t0 N v0 v1 v2 (K : KT ρ) : f70i N (f70c 1) .n (f70s0 v0 v1 v2) (joinK (some f70lE) K) =
  impl_within.Z0 N v0 v1 v2 (fun v6 => K .ret (f70s1 v6)) := by kernel_rfl
theorem f70m (N : Nat) (v0 v1 v2 : Int) : f70i N (f70c 1) .n (f70s0 v0 v1 v2) (joinK (some f70lE) (finK tab f70sig Try.f70.results.toList)) = impl_within.Z0 N v0 v1 v2 (fun v6 => some ((), (v6, ()))) :=
  (f70t0 N v0 v1 v2 (finK tab f70sig Try.f70.results.toList)).trans (by kernel_rfl)
theorem f70ok (h : impl_within.Spec) : EntryOk Try.prog 70 e70 :=
  entry_of_code (sig := f70sig) (c := (f70c 1)) (pl := .n) (je := (some f70lE)) (B := f70B) Try.func70 (by kernel_rfl) (by kernel_rfl) (by kernel_rfl) tabOk f70GOk (by kernel_rfl) (by kernel_rfl) (by kernel_rfl) (by kernel_rfl) fun X hb hp => by
    obtain ⟨v0, v1, v2, _⟩ := X
    obtain ⟨N, h⟩ := h v0 v1 v2
    exact ⟨N, (f70m N v0 v1 v2).trans (h N (Nat.le_refl N))⟩
theorem e70ok : EntryOk Try.prog 70 e70 := f70ok impl_within.ok
end Go.Fw
namespace Go.Fw
variable {ρ : Type}
open Go.Proofs
noncomputable def f109sig : Sig := ⟨[⟨.int .i64, false, false⟩], [⟨.bool, false, false⟩]⟩
noncomputable def e109 : Entry := ⟨f109sig, none, fun X => ((), ((impl_shaped_1.g X.1), ()))⟩
noncomputable def f109G : Gm := addG emptyG 70 e70
theorem f109GOk : GOk Try.prog f109G := (GOk.nil).add e70ok (by kernel_rfl)
noncomputable def f109lE : Clean := ⟨[], [], [], [], []⟩
noncomputable def f109s0 (v0 : Int) : St := initSt f109sig.ps (v0, ())
noncomputable def f109s1 (v2 : Bool) : St := stOf [(2, xB v2)] [] []
noncomputable def f109l1 : Clean := ⟨[2], [], [], [], []⟩
noncomputable def f109B : Nat → Option Clean := lookL [(1000000, f109l1)]
noncomputable abbrev f109i {ρ : Type} (N : Nat) (c : Code) (p : Plan) (σ : St) (K : KT ρ) : Option ρ := iCode f109G tab f109B N c p σ K
noncomputable def f109c (n : Nat) : Code := codeN 99 (bodyOf Try.f109) n
theorem f109t0 N v0 (K : KT ρ) : f109i N (f109c 1) .n (f109s0 v0) (joinK (some f109lE) K) =
  impl_shaped_1.Z0 N v0 (fun v2 => K .ret (f109s1 v2)) := by kernel_rfl
theorem f109m (N : Nat) (v0 : Int) : f109i N (f109c 1) .n (f109s0 v0) (joinK (some f109lE) (finK tab f109sig Try.f109.results.toList)) = impl_shaped_1.Z0 N v0 (fun v2 => some ((), (v2, ()))) :=
  (f109t0 N v0 (finK tab f109sig Try.f109.results.toList)).trans (by kernel_rfl)
theorem f109ok (h : impl_shaped_1.Spec) : EntryOk Try.prog 109 e109 :=
  entry_of_code (sig := f109sig) (c := (f109c 1)) (pl := .n) (je := (some f109lE)) (B := f109B) Try.func109 (by kernel_rfl) (by kernel_rfl) (by kernel_rfl) tabOk f109GOk (by kernel_rfl) (by kernel_rfl) (by kernel_rfl) (by kernel_rfl) fun X hb hp => by
    obtain ⟨v0, _⟩ := X
    obtain ⟨N, h⟩ := h v0
    exact ⟨N, (f109m N v0).trans (h N (Nat.le_refl N))⟩
theorem e109ok : EntryOk Try.prog 109 e109 := f109ok impl_shaped_1.ok
end Go.Fw
namespace Go.Fw
variable {ρ : Type}
open Go.Proofs
noncomputable def f128bsig : Sig := ⟨[⟨.sl 3 (.int .i64), false, false⟩, ⟨.fnc 109, false, false⟩], [⟨.int .i64, false, false⟩]⟩
noncomputable def e128b : Entry := ⟨f128bsig, none, fun X => ((), ((slices_IndexFunc_int_int_shaped.g X.1 X.2.1), ()))⟩
noncomputable def f128bG : Gm := addG emptyG 109 e109
theorem f128bGOk : GOk Try.prog f128bG := (GOk.nil).add e109ok (by kernel_rfl)
noncomputable def f128blE : Clean := ⟨[], [], [], [], []⟩
noncomputable def f128bs0 (v0 : LI) (v1 : Unit) : St := initSt f128bsig.ps (v0, (v1, ()))
noncomputable def f128bs1 (v0 : LI) : St := stOf [(0, .c (.sn 3 tI v0 none)), (1, .c (.fn 109 []))] [] []
noncomputable def f128bl1 : Clean := ⟨[0, 1], [], [], [], []⟩
noncomputable def f128bs2 (v0 : LI) (v7 v8 : Int) : St := stOf [(0, .c (.sn 3 tI v0 none)), (1, .c (.fn 109 [])), (7, xi v7), (8, xi v8)] [] []
noncomputable def f128bl2 : Clean := ⟨[0, 1, 7, 8], [], [], [], []⟩
noncomputable def f128bs3  : St := stOf [] [] []
noncomputable def f128bl3 : Clean := ⟨[], [], [], [], []⟩
noncomputable def f128bs4 (v4 : Int) : St := stOf [(4, xi v4)] [] []
noncomputable def f128bl4 : Clean := ⟨[4], [], [], [], []⟩
noncomputable def f128bB : Nat → Option Clean := lookL [(0, f128bl3), (1000000, f128bl4)]
noncomputable abbrev f128bi {ρ : Type} (N : Nat) (c : Code) (p : Plan) (σ : St) (K : KT ρ) : Option ρ := iCode f128bG tab f128bB N c p σ K
noncomputable def f128bc (n : Nat) : Code := codeN 99 (bodyOf Try.f128) n
theorem f128bt1 N v0 v1 (K : KT ρ) : f128bi N (f128bc 2) .n (f128bs0 v0 v1) (joinK (some f128bl1) K) =
  slices_IndexFunc_int_int_shaped.Z1 N v0 v1 (fun v0 => K .nrm (f128bs1 v0)) := by kernel_rfl
theorem f128bt4 N v0 (K : KT ρ) : f128bi N (f128bc 9) .n (f128bs1 v0) (joinK (some f128bl2) K) =
  slices_IndexFunc_int_int_shaped.Z4 N v0 (fun v0 v7 v8 => K .nrm (f128bs2 v0 v7 v8)) := by kernel_rfl
theorem f128bt7 N v0 v7 v8 (K : KT ρ) : f128bi N (f128bc 37) .n (f128bs2 v0 v7 v8) (joinK (some f128bl2) K) =
  slices_IndexFunc_int_int_shaped.Z7 N v0 v7 v8 (fun v0 v7 v8 => K .nrm (f128bs2 v0 v7 v8)) (K (.exit 0) f128bs3) (fun v4 => K .ret (f128bs4 v4)) := by kernel_rfl
noncomputable def f128bp6 : Plan := .mk none (some f128bl2) .n .n
noncomputable abbrev f128bw6 {ρ : Type} (N M : Nat) (σ : St) (K : KT ρ) : Option ρ := loopC (fun σ K => f128bi N (f128bc 37) .n σ K) f128bl2 M σ K
theorem f128bt6L {ρ : Type} (N : Nat) (K : KT ρ) : ∀ (M : Nat) (v0 : LI) (v7 v8 : Int), f128bw6 N M (f128bs2 v0 v7 v8) K =
  slices_IndexFunc_int_int_shaped.Z6L N (K (.exit 0) f128bs3) (fun v4 => K .ret (f128bs4 v4)) M v0 v7 v8
  | 0, _, _, _ => rfl
  | M + 1, v0, v7, v8 => viaRoundS (fun k => slices_IndexFunc_int_int_shaped.Z7 N v0 v7 v8 k (K (.exit 0) f128bs3) (fun v4 => K .ret (f128bs4 v4))) (f128bt7 N (K := seqK (fun σ => f128bw6 N M σ K) K) ..) (fx3 fun v0 v7 v8 => f128bt6L N K M v0 v7 v8) (by kernel_rfl)
theorem f128bt6 N v0 v7 v8 (K : KT ρ) : f128bi N (f128bc 21) f128bp6 (f128bs2 v0 v7 v8) (joinK (some f128bl3) K) =
  slices_IndexFunc_int_int_shaped.Z6 N v0 v7 v8 (K (.exit 0) f128bs3) (fun v4 => K .ret (f128bs4 v4)) :=
 viaLoopS (by kernel_rfl) (f128bt6L N (joinK (some f128bl3) K) N v0 v7 v8) (by kernel_rfl)
noncomputable def f128bp5 : Plan := .mk (some f128bl3) none f128bp6 .n
theorem f128bt5 N v0 v7 v8 (K : KT ρ) : f128bi N (f128bc 13) f128bp5 (f128bs2 v0 v7 v8) (joinK (some f128bl3) K) =
  slices_IndexFunc_int_int_shaped.Z5 N v0 v7 v8 (K .nrm f128bs3) (fun v4 => K .ret (f128bs4 v4)) :=
 viaBlockS (by kernel_rfl) (f128bt6 N (K := blockK 0 (joinK (some f128bl3) K)) ..) (by kernel_rfl)
noncomputable def f128bp3 : Plan := .mk (some f128bl2) none .n f128bp5
theorem f128bt3 N v0 (K : KT ρ) : f128bi N (f128bc 5) f128bp3 (f128bs1 v0) (joinK (some f128bl3) K) =
  slices_IndexFunc_int_int_shaped.Z3 N v0 (K .nrm f128bs3) (fun v4 => K .ret (f128bs4 v4)) :=
 viaSeqS (fun k => slices_IndexFunc_int_int_shaped.Z4 N v0 k) (by kernel_rfl) (f128bt4 N (K := seqK (fun σ => f128bi N (f128bc 13) f128bp5 σ (joinK (some f128bl3) K)) (joinK (some f128bl3) K)) ..) (fx3 fun v0 v7 v8 => f128bt5 N v0 v7 v8 K) (by kernel_rfl)
theorem f128bt8 N  (K : KT ρ) : f128bi N (f128bc 7) .n f128bs3 (joinK (some f128blE) K) =
  slices_IndexFunc_int_int_shaped.Z8 N (fun v4 => K .ret (f128bs4 v4)) := by kernel_rfl
noncomputable def f128bp2 : Plan := .mk (some f128bl3) none f128bp3 .n
theorem f128bt2 N v0 (K : KT ρ) : f128bi N (f128bc 3) f128bp2 (f128bs1 v0) (joinK (some f128blE) K) =
  slices_IndexFunc_int_int_shaped.Z2 N v0 (fun v4 => K .ret (f128bs4 v4)) :=
 viaSeqS (fun k => slices_IndexFunc_int_int_shaped.Z3 N v0 k (fun v4 => K .ret (f128bs4 v4))) (by kernel_rfl) (f128bt3 N (K := seqK (fun σ => f128bi N (f128bc 7) .n σ (joinK (some f128blE) K)) (joinK (some f128blE) K)) ..) (f128bt8 N K) (by kernel_rfl)
noncomputable def f128bp0 : Plan := .mk (some f128bl1) none .n f128bp2
theorem f128bt0 N v0 v1 (K : KT ρ) : f128bi N (f128bc 1) f128bp0 (f128bs0 v0 v1) (joinK (some f128blE) K) =
  slices_IndexFunc_int_int_shaped.Z0 N v0 v1 (fun v4 => K .ret (f128bs4 v4)) :=
 viaSeqS (fun k => slices_IndexFunc_int_int_shaped.Z1 N v0 v1 k) (by kernel_rfl) (f128bt1 N (K := seqK (fun σ => f128bi N (f128bc 3) f128bp2 σ (joinK (some f128blE) K)) (joinK (some f128blE) K)) ..) (funext fun v0 => f128bt2 N v0 K) (by kernel_rfl)
theorem f128bm (N : Nat) (v0 : LI) (v1 : Unit) : f128bi N (f128bc 1) f128bp0 (f128bs0 v0 v1) (joinK (some f128blE) (finK tab f128bsig Try.f128.results.toList)) = slices_IndexFunc_int_int_shaped.Z0 N v0 v1 (fun v4 => some ((), (v4, ()))) :=
  (f128bt0 N v0 v1 (finK tab f128bsig Try.f128.results.toList)).trans (by kernel_rfl)
theorem f128bok (h : slices_IndexFunc_int_int_shaped.Spec) : EntryOk Try.prog 128 e128b :=
  entry_of_code (sig := f128bsig) (c := (f128bc 1)) (pl := f128bp0) (je := (some f128blE)) (B := f128bB) Try.func128 (by kernel_rfl) (by kernel_rfl) (by kernel_rfl) tabOk f128bGOk (by kernel_rfl) (by kernel_rfl) (by kernel_rfl) (by kernel_rfl) fun X hb hp => by
    obtain ⟨v0, v1, _⟩ := X
    obtain ⟨N, h⟩ := h v0 v1 hb.1
    exact ⟨N, (f128bm N v0 v1).trans (h N (Nat.le_refl N))⟩
theorem e128bok : EntryOk Try.prog 128 e128b := f128bok slices_IndexFunc_int_int_shaped.ok
end Go.Fw
namespace Go.Fw
variable {ρ : Type}
open Go.Proofs
noncomputable def f108bsig : Sig := ⟨[⟨.sl 3 (.int .i64), false, false⟩, ⟨.fnc 109, false, false⟩], [⟨.bool, false, false⟩]⟩
noncomputable def e108b : Entry := ⟨f108bsig, none, fun X => ((), ((slices_ContainsFunc_int_int_shaped.g X.1 X.2.1), ()))⟩
noncomputable def f108bG : Gm := addG emptyG 128 e128b
theorem f108bGOk : GOk Try.prog f108bG := (GOk.nil).add e128bok (by kernel_rfl)
noncomputable def f108blE : Clean := ⟨[], [], [], [], []⟩
noncomputable def f108bs0 (v0 : LI) (v1 : Unit) : St := initSt f108bsig.ps (v0, (v1, ()))
noncomputable def f108bs1 (v4 : Bool) : St := stOf [(4, xB v4)] [] []
noncomputable def f108bl1 : Clean := ⟨[4], [], [], [], []⟩
noncomputable def f108bB : Nat → Option Clean := lookL [(1000000, f108bl1)]
noncomputable abbrev f108bi {ρ : Type} (N : Nat) (c : Code) (p : Plan) (σ : St) (K : KT ρ) : Option ρ := iCode f108bG tab f108bB N c p σ K
noncomputable def f108bc (n : Nat) : Code := codeN 99 (bodyOf Try.f108) n
theorem f108bt0 N v0 v1 (K : KT ρ) : f108bi N (f108bc 1) .n (f108bs0 v0 v1) (joinK (some f108blE) K) =
  slices_ContainsFunc_int_int_shaped.Z0 N v0 v1 (fun v4 => K .ret (f108bs1 v4)) := by kernel_rfl
theorem f108bm (N : Nat) (v0 : LI) (v1 : Unit) : f108bi N (f108bc 1) .n (f108bs0 v0 v1) (joinK (some f108blE) (finK tab f108bsig Try.f108.results.toList)) = slices_ContainsFunc_int_int_shaped.Z0 N v0 v1 (fun v4 => some ((), (v4, ()))) :=
  (f108bt0 N v0 v1 (finK tab f108bsig Try.f108.results.toList)).trans (by kernel_rfl)
theorem f108bok (h : slices_ContainsFunc_int_int_shaped.Spec) : EntryOk Try.prog 108 e108b :=
  entry_of_code (sig := f108bsig) (c := (f108bc 1)) (pl := .n) (je := (some f108blE)) (B := f108bB) Try.func108 (by kernel_rfl) (by kernel_rfl) (by kernel_rfl) tabOk f108bGOk (by kernel_rfl) (by kernel_rfl) (by kernel_rfl) (by kernel_rfl) fun X hb hp => by
    obtain ⟨v0, v1, _⟩ := X
    obtain ⟨N, h⟩ := h v0 v1 hb.1
    exact ⟨N, (f108bm N v0 v1).trans (h N (Nat.le_refl N))⟩
theorem e108bok : EntryOk Try.prog 108 e108b := f108bok slices_ContainsFunc_int_int_shaped.ok
end Go.Fw
namespace Go.Fw
variable {ρ : Type}
open Go.Proofs
noncomputable def f75sig : Sig := ⟨[⟨.pair (.int .i64) (.pair (.int .i64) (.sl 3 (.int .i64))), true, false⟩], [⟨.bool, false, false⟩]⟩
noncomputable def e75 : Entry := ⟨f75sig, none, fun X => ((), ((impl_shaped.g X.1), ()))⟩
noncomputable def f75G : Gm := addG (addG emptyG 70 e70) 108 e108b
theorem f75GOk : GOk Try.prog f75G := ((GOk.nil).add e70ok (by kernel_rfl)).add e108bok (by kernel_rfl)
noncomputable def f75lE : Clean := ⟨[], [], [], [], []⟩
noncomputable def f75s0 (v0 : MT) : St := initSt f75sig.ps (v0, ())
noncomputable def f75s1 (v2 : Bool) : St := stOf [(2, xB v2)] [] []
noncomputable def f75l1 : Clean := ⟨[2], [], [], [], []⟩
noncomputable def f75B : Nat → Option Clean := lookL [(1000000, f75l1)]
noncomputable abbrev f75i {ρ : Type} (N : Nat) (c : Code) (p : Plan) (σ : St) (K : KT ρ) : Option ρ := iCode f75G tab f75B N c p σ K
noncomputable def f75c (n : Nat) : Code := codeN 99 (bodyOf Try.f75) n
theorem f75t0 N v0 (K : KT ρ) : f75i N (f75c 1) .n (f75s0 v0) (joinK (some f75lE) K) =
  impl_shaped.Z0 N v0 (fun v2 => K .ret (f75s1 v2)) := by kernel_rfl
theorem f75m (N : Nat) (v0 : MT) : f75i N (f75c 1) .n (f75s0 v0) (joinK (some f75lE) (finK tab f75sig Try.f75.results.toList)) = impl_shaped.Z0 N v0 (fun v2 => some ((), (v2, ()))) :=
  (f75t0 N v0 (finK tab f75sig Try.f75.results.toList)).trans (by kernel_rfl)
theorem f75ok (h : impl_shaped.Spec) : EntryOk Try.prog 75 e75 :=
  entry_of_code (sig := f75sig) (c := (f75c 1)) (pl := .n) (je := (some f75lE)) (B := f75B) Try.func75 (by kernel_rfl) (by kernel_rfl) (by kernel_rfl) tabOk f75GOk (by kernel_rfl) (by kernel_rfl) (by kernel_rfl) (by kernel_rfl) fun X hb hp => by
    obtain ⟨v0, _⟩ := X
    obtain ⟨N, h⟩ := h v0 hb.1
    exact ⟨N, (f75m N v0).trans (h N (Nat.le_refl N))⟩
theorem e75ok : EntryOk Try.prog 75 e75 := f75ok impl_shaped.ok
end Go.Fw
namespace Go.Fw
variable {ρ : Type}
open Go.Proofs
noncomputable def f83sig : Sig := ⟨[⟨.pair (.int .i64) (.pair (.int .i64) (.sl 3 (.int .i64))), true, false⟩, ⟨.int .i64, false, false⟩, ⟨.int .i64, false, false⟩], [⟨.int .i64, false, false⟩]⟩
noncomputable def e83 : Entry := ⟨f83sig, (some fun X => impl_Matrix_at.P X.1 X.2.1 X.2.2.1), fun X => ((), ((impl_Matrix_at.g X.1 X.2.1 X.2.2.1), ()))⟩
noncomputable def f83G : Gm := emptyG
theorem f83GOk : GOk Try.prog f83G := GOk.nil
noncomputable def f83lE : Clean := ⟨[], [], [], [], []⟩
noncomputable def f83s0 (v0 : MT) (v1 v2 : Int) : St := initSt f83sig.ps (v0, (v1, (v2, ())))
noncomputable def f83s1 (v6 : Int) : St := stOf [(6, xi v6)] [] []
noncomputable def f83l1 : Clean := ⟨[6], [], [], [], []⟩
noncomputable def f83B : Nat → Option Clean := lookL [(1000000, f83l1)]
noncomputable abbrev f83i {ρ : Type} (N : Nat) (c : Code) (p : Plan) (σ : St) (K : KT ρ) : Option ρ := iCode f83G tab f83B N c p σ K
noncomputable def f83c (n : Nat) : Code := codeN 99 (bodyOf Try.f83) n
theorem f83t0 N v0 v1 v2 (K : KT ρ) : f83i N (f83c 1) .n (f83s0 v0 v1 v2) (joinK (some f83lE) K) =
  impl_Matrix_at.Z0 N v0 v1 v2 (fun v6 => K .ret (f83s1 v6)) := by kernel_rfl
theorem f83m (N : Nat) (v0 : MT) (v1 v2 : Int) : f83i N (f83c 1) .n (f83s0 v0 v1 v2) (joinK (some f83lE) (finK tab f83sig Try.f83.results.toList)) = impl_Matrix_at.Z0 N v0 v1 v2 (fun v6 => some ((), (v6, ()))) :=
  (f83t0 N v0 v1 v2 (finK tab f83sig Try.f83.results.toList)).trans (by kernel_rfl)
theorem f83ok (h : impl_Matrix_at.Spec) : EntryOk Try.prog 83 e83 :=
  entry_of_code (sig := f83sig) (c := (f83c 1)) (pl := .n) (je := (some f83lE)) (B := f83B) Try.func83 (by kernel_rfl) (by kernel_rfl) (by kernel_rfl) tabOk f83GOk (by kernel_rfl) (by kernel_rfl) (by kernel_rfl) (by kernel_rfl) fun X hb hp => by
    obtain ⟨v0, v1, v2, _⟩ := X
    obtain ⟨N, h⟩ := h v0 v1 v2 hb.1 hp
    exact ⟨N, (f83m N v0 v1 v2).trans (h N (Nat.le_refl N))⟩
theorem e83ok : EntryOk Try.prog 83 e83 := f83ok impl_Matrix_at.ok
end Go.Fw
namespace Go.Fw
variable {ρ : Type}
open Go.Proofs
noncomputable def f110sig : Sig := ⟨[⟨.int .i64, false, false⟩, ⟨.int .i64, false, false⟩], [⟨.int .i64, false, false⟩]⟩
noncomputable def e110 : Entry := ⟨f110sig, (some fun X => impl_gcd.P X.1 X.2.1), fun X => ((), ((impl_gcd.g X.1 X.2.1), ()))⟩
noncomputable def f110G : Gm := emptyG
theorem f110GOk : GOk Try.prog f110G := GOk.nil
noncomputable def f110lE : Clean := ⟨[], [], [], [], []⟩
noncomputable def f110s0 (v0 v1 : Int) : St := initSt f110sig.ps (v0, (v1, ()))
noncomputable def f110s1 (v0 v1 : Int) : St := stOf [(0, xi v0), (1, xi v1)] [] []
noncomputable def f110l1 : Clean := ⟨[0, 1], [], [], [], []⟩
noncomputable def f110s2 (v0 : Int) : St := stOf [(0, xi v0)] [] []
noncomputable def f110l2 : Clean := ⟨[0], [], [], [], []⟩
noncomputable def f110s3 (v4 : Int) : St := stOf [(4, xi v4)] [] []
noncomputable def f110l3 : Clean := ⟨[4], [], [], [], []⟩
noncomputable def f110B : Nat → Option Clean := lookL [(0, f110l2), (1000000, f110l3)]
noncomputable abbrev f110i {ρ : Type} (N : Nat) (c : Code) (p : Plan) (σ : St) (K : KT ρ) : Option ρ := iCode f110G tab f110B N c p σ K
noncomputable def f110c (n : Nat) : Code := codeN 99 (bodyOf Try.f110) n
theorem f110t1 N v0 v1 (K : KT ρ) : f110i N (f110c 2) .n (f110s0 v0 v1) (joinK (some f110l1) K) =
  impl_gcd.Z1 N v0 v1 (fun v0 v1 => K .nrm (f110s1 v0 v1)) := by kernel_rfl
theorem f110t5 N v0 v1 (K : KT ρ) : f110i N (f110c 17) .n (f110s1 v0 v1) (joinK (some f110l1) K) =
  impl_gcd.Z5 N v0 v1 (fun v0 v1 => K .nrm (f110s1 v0 v1)) (fun v0 => K (.exit 0) (f110s2 v0)) := by kernel_rfl
noncomputable def f110p4 : Plan := .mk none (some f110l1) .n .n
noncomputable abbrev f110w4 {ρ : Type} (N M : Nat) (σ : St) (K : KT ρ) : Option ρ := loopC (fun σ K => f110i N (f110c 17) .n σ K) f110l1 M σ K
theorem f110t4L {ρ : Type} (N : Nat) (K : KT ρ) : ∀ (M : Nat) (v0 v1 : Int), f110w4 N M (f110s1 v0 v1) K =
  impl_gcd.Z4L N (fun v0 => K (.exit 0) (f110s2 v0)) M v0 v1
  | 0, _, _ => rfl
  | M + 1, v0, v1 => viaRoundS (fun k => impl_gcd.Z5 N v0 v1 k (fun v0 => K (.exit 0) (f110s2 v0))) (f110t5 N (K := seqK (fun σ => f110w4 N M σ K) K) ..) (fx2 fun v0 v1 => f110t4L N K M v0 v1) (by kernel_rfl)
theorem f110t4 N v0 v1 (K : KT ρ) : f110i N (f110c 9) f110p4 (f110s1 v0 v1) (joinK (some f110l2) K) =
  impl_gcd.Z4 N v0 v1 (fun v0 => K (.exit 0) (f110s2 v0)) :=
 viaLoopS (by kernel_rfl) (f110t4L N (joinK (some f110l2) K) N v0 v1) (by kernel_rfl)
noncomputable def f110p3 : Plan := .mk (some f110l2) none f110p4 .n
theorem f110t3 N v0 v1 (K : KT ρ) : f110i N (f110c 5) f110p3 (f110s1 v0 v1) (joinK (some f110l2) K) =
  impl_gcd.Z3 N v0 v1 (fun v0 => K .nrm (f110s2 v0)) :=
 viaBlockS (by kernel_rfl) (f110t4 N (K := blockK 0 (joinK (some f110l2) K)) ..) (by kernel_rfl)
theorem f110t6 N v0 (K : KT ρ) : f110i N (f110c 7) .n (f110s2 v0) (joinK (some f110lE) K) =
  impl_gcd.Z6 N v0 (fun v4 => K .ret (f110s3 v4)) := by kernel_rfl
noncomputable def f110p2 : Plan := .mk (some f110l2) none f110p3 .n
theorem f110t2 N v0 v1 (K : KT ρ) : f110i N (f110c 3) f110p2 (f110s1 v0 v1) (joinK (some f110lE) K) =
  impl_gcd.Z2 N v0 v1 (fun v4 => K .ret (f110s3 v4)) :=
 viaSeqS (fun k => impl_gcd.Z3 N v0 v1 k) (by kernel_rfl) (f110t3 N (K := seqK (fun σ => f110i N (f110c 7) .n σ (joinK (some f110lE) K)) (joinK (some f110lE) K)) ..) (funext fun v0 => f110t6 N v0 K) (by kernel_rfl)
noncomputable def f110p0 : Plan := .mk (some f110l1) none .n f110p2
theorem f110t0 N v0 v1 (K : KT ρ) : f110i N (f110c 1) f110p0 (f110s0 v0 v1) (joinK (some f110lE) K) =
  impl_gcd.Z0 N v0 v1 (fun v4 => K .ret (f110s3 v4)) :=
 viaSeqS (fun k => impl_gcd.Z1 N v0 v1 k) (by kernel_rfl) (f110t1 N (K := seqK (fun σ => f110i N (f110c 3) f110p2 σ (joinK (some f110lE) K)) (joinK (some f110lE) K)) ..) (fx2 fun v0 v1 => f110t2 N v0 v1 K) (by kernel_rfl)
theorem f110m (N : Nat) (v0 v1 : Int) : f110i N (f110c 1) f110p0 (f110s0 v0 v1) (joinK (some f110lE) (finK tab f110sig Try.f110.results.toList)) = impl_gcd.Z0 N v0 v1 (fun v4 => some ((), (v4, ()))) :=
  (f110t0 N v0 v1 (finK tab f110sig Try.f110.results.toList)).trans (by kernel_rfl)
theorem f110ok (h : impl_gcd.Spec) : EntryOk Try.prog 110 e110 :=
  entry_of_code (sig := f110sig) (c := (f110c 1)) (pl := f110p0) (je := (some f110lE)) (B := f110B) Try.func110 (by kernel_rfl) (by kernel_rfl) (by kernel_rfl) tabOk f110GOk (by kernel_rfl) (by kernel_rfl) (by kernel_rfl) (by kernel_rfl) fun X hb hp => by
    obtain ⟨v0, v1, _⟩ := X
    obtain ⟨N, h⟩ := h v0 v1 hp
    exact ⟨N, (f110m N v0 v1).trans (h N (Nat.le_refl N))⟩
theorem e110ok : EntryOk Try.prog 110 e110 := f110ok impl_gcd.ok
end Go.Fw
namespace Go.Fw
variable {ρ : Type}
open Go.Proofs
noncomputable def f76sig : Sig := ⟨[⟨.pair (.int .i64) (.pair (.int .i64) (.sl 3 (.int .i64))), true, false⟩], [⟨.sl 3 (.int .i64), false, true⟩]⟩
noncomputable def e76 : Entry := ⟨f76sig, (some fun X => impl_factors.P X.1), fun X => ((), ((impl_factors.g X.1), ()))⟩
noncomputable def f76G : Gm := addG (addG emptyG 83 e83) 110 e110
theorem f76GOk : GOk Try.prog f76G := ((GOk.nil).add e83ok (by kernel_rfl)).add e110ok (by kernel_rfl)
noncomputable def f76lE : Clean := ⟨[], [], [], [], []⟩
noncomputable def f76s0 (v0 : MT) : St := initSt f76sig.ps (v0, ())
noncomputable def f76s1 (v1_0 v1_1 : Int) (v1_2 : LI) : St := stOf [(1, xb 1)] [(1, (30, [yi v1_0, yi v1_1, .sn 3 tI v1_2 none]))] []
noncomputable def f76l1 : Clean := ⟨[1], [1], [], [], []⟩
noncomputable def f76s2 (v3 v4 : LI) (v1_0 v1_1 : Int) (v1_2 : LI) : St := stOf [(1, xb 1), (3, xo 1000192), (4, xo 1000256)] [(1, (30, [yi v1_0, yi v1_1, .sn 3 tI v1_2 none]))] [(1000192, (⟨3, .int .i64, v3, true, false⟩ : Row)), (1000256, (⟨3, .int .i64, v4, true, false⟩ : Row))]
noncomputable def f76l2 : Clean := ⟨[1, 3, 4], [1], [], [], [(⟨false, 3, 0⟩, 1000192), (⟨false, 4, 0⟩, 1000256)]⟩
noncomputable def f76s3 (v3 v4 v5 : LI) (v1_0 v1_1 : Int) (v1_2 : LI) : St := stOf [(1, xb 1), (3, xo 1000192), (4, xo 1000256), (5, xo 1000320)] [(1, (30, [yi v1_0, yi v1_1, .sn 3 tI v1_2 none]))] [(1000192, (⟨3, .int .i64, v3, true, false⟩ : Row)), (1000256, (⟨3, .int .i64, v4, true, false⟩ : Row)), (1000320, (⟨3, .int .i64, v5, true, false⟩ : Row))]
noncomputable def f76l3 : Clean := ⟨[1, 3, 4, 5], [1], [], [], [(⟨false, 3, 0⟩, 1000192), (⟨false, 4, 0⟩, 1000256), (⟨false, 5, 0⟩, 1000320)]⟩
noncomputable def f76s4 (v3 v4 v5 : LI) (v34 v35 v1_0 v1_1 : Int) (v1_2 : LI) : St := stOf [(1, xb 1), (3, xo 1000192), (4, xo 1000256), (5, xo 1000320), (34, xi v34), (35, xi v35)] [(1, (30, [yi v1_0, yi v1_1, .sn 3 tI v1_2 none]))] [(1000192, (⟨3, .int .i64, v3, true, false⟩ : Row)), (1000256, (⟨3, .int .i64, v4, true, false⟩ : Row)), (1000320, (⟨3, .int .i64, v5, true, false⟩ : Row))]
noncomputable def f76l4 : Clean := ⟨[1, 3, 4, 5, 34, 35], [1], [], [], [(⟨false, 3, 0⟩, 1000192), (⟨false, 4, 0⟩, 1000256), (⟨false, 5, 0⟩, 1000320)]⟩
noncomputable def f76s5 (v3 v4 v5 : LI) (v34 v35 : Int) (v36 : Bool) (v1_0 v1_1 : Int) (v1_2 : LI) : St := stOf [(1, xb 1), (3, xo 1000192), (4, xo 1000256), (5, xo 1000320), (34, xi v34), (35, xi v35), (36, xB v36)] [(1, (30, [yi v1_0, yi v1_1, .sn 3 tI v1_2 none]))] [(1000192, (⟨3, .int .i64, v3, true, false⟩ : Row)), (1000256, (⟨3, .int .i64, v4, true, false⟩ : Row)), (1000320, (⟨3, .int .i64, v5, true, false⟩ : Row))]
noncomputable def f76l5 : Clean := ⟨[1, 3, 4, 5, 34, 35, 36], [1], [], [], [(⟨false, 3, 0⟩, 1000192), (⟨false, 4, 0⟩, 1000256), (⟨false, 5, 0⟩, 1000320)]⟩
noncomputable def f76s6 (v3 v4 v5 : LI) (v6 v34 v35 v1_0 v1_1 : Int) (v1_2 : LI) : St := stOf [(1, xb 1), (3, xo 1000192), (4, xo 1000256), (5, xo 1000320), (6, xi v6), (34, xi v34), (35, xi v35)] [(1, (30, [yi v1_0, yi v1_1, .sn 3 tI v1_2 none]))] [(1000192, (⟨3, .int .i64, v3, true, false⟩ : Row)), (1000256, (⟨3, .int .i64, v4, true, false⟩ : Row)), (1000320, (⟨3, .int .i64, v5, true, false⟩ : Row))]
noncomputable def f76l6 : Clean := ⟨[1, 3, 4, 5, 6, 34, 35], [1], [], [], [(⟨false, 3, 0⟩, 1000192), (⟨false, 4, 0⟩, 1000256), (⟨false, 5, 0⟩, 1000320)]⟩
noncomputable def f76s7 (v3 v4 v5 v7 : LI) (v34 v35 v1_0 v1_1 : Int) (v1_2 : LI) : St := stOf [(1, xb 1), (3, xo 1000192), (4, xo 1000256), (5, xo 1000320), (7, xo 1000448), (34, xi v34), (35, xi v35)] [(1, (30, [yi v1_0, yi v1_1, .sn 3 tI v1_2 none]))] [(1000192, (⟨3, .int .i64, v3, true, false⟩ : Row)), (1000256, (⟨3, .int .i64, v4, true, false⟩ : Row)), (1000320, (⟨3, .int .i64, v5, true, false⟩ : Row)), (1000448, (⟨3, .int .i64, v7, true, false⟩ : Row))]
noncomputable def f76l7 : Clean := ⟨[1, 3, 4, 5, 7, 34, 35], [1], [], [], [(⟨false, 3, 0⟩, 1000192), (⟨false, 4, 0⟩, 1000256), (⟨false, 5, 0⟩, 1000320), (⟨false, 7, 0⟩, 1000448)]⟩
noncomputable def f76s8 (v3 v4 v5 v7 : LI) (v8 v34 v35 v1_0 v1_1 : Int) (v1_2 : LI) : St := stOf [(1, xb 1), (3, xo 1000192), (4, xo 1000256), (5, xo 1000320), (7, xo 1000448), (8, xi v8), (34, xi v34), (35, xi v35)] [(1, (30, [yi v1_0, yi v1_1, .sn 3 tI v1_2 none]))] [(1000192, (⟨3, .int .i64, v3, true, false⟩ : Row)), (1000256, (⟨3, .int .i64, v4, true, false⟩ : Row)), (1000320, (⟨3, .int .i64, v5, true, false⟩ : Row)), (1000448, (⟨3, .int .i64, v7, true, false⟩ : Row))]
noncomputable def f76l8 : Clean := ⟨[1, 3, 4, 5, 7, 8, 34, 35], [1], [], [], [(⟨false, 3, 0⟩, 1000192), (⟨false, 4, 0⟩, 1000256), (⟨false, 5, 0⟩, 1000320), (⟨false, 7, 0⟩, 1000448)]⟩
noncomputable def f76s9 (v3 v4 v5 v7 : LI) (v8 v9 v34 v35 v1_0 v1_1 : Int) (v1_2 : LI) : St := stOf [(1, xb 1), (3, xo 1000192), (4, xo 1000256), (5, xo 1000320), (7, xo 1000448), (8, xi v8), (9, xi v9), (34, xi v34), (35, xi v35)] [(1, (30, [yi v1_0, yi v1_1, .sn 3 tI v1_2 none]))] [(1000192, (⟨3, .int .i64, v3, true, false⟩ : Row)), (1000256, (⟨3, .int .i64, v4, true, false⟩ : Row)), (1000320, (⟨3, .int .i64, v5, true, false⟩ : Row)), (1000448, (⟨3, .int .i64, v7, true, false⟩ : Row))]
noncomputable def f76l9 : Clean := ⟨[1, 3, 4, 5, 7, 8, 9, 34, 35], [1], [], [], [(⟨false, 3, 0⟩, 1000192), (⟨false, 4, 0⟩, 1000256), (⟨false, 5, 0⟩, 1000320), (⟨false, 7, 0⟩, 1000448)]⟩
noncomputable def f76s10 (v3 v4 v5 v7 : LI) (v8 v9 v34 v35 v62 v63 v1_0 v1_1 : Int) (v1_2 : LI) : St := stOf [(1, xb 1), (3, xo 1000192), (4, xo 1000256), (5, xo 1000320), (7, xo 1000448), (8, xi v8), (9, xi v9), (34, xi v34), (35, xi v35), (62, xi v62), (63, xi v63)] [(1, (30, [yi v1_0, yi v1_1, .sn 3 tI v1_2 none]))] [(1000192, (⟨3, .int .i64, v3, true, false⟩ : Row)), (1000256, (⟨3, .int .i64, v4, true, false⟩ : Row)), (1000320, (⟨3, .int .i64, v5, true, false⟩ : Row)), (1000448, (⟨3, .int .i64, v7, true, false⟩ : Row))]
noncomputable def f76l10 : Clean := ⟨[1, 3, 4, 5, 7, 8, 9, 34, 35, 62, 63], [1], [], [], [(⟨false, 3, 0⟩, 1000192), (⟨false, 4, 0⟩, 1000256), (⟨false, 5, 0⟩, 1000320), (⟨false, 7, 0⟩, 1000448)]⟩
noncomputable def f76s11 (v3 v4 v5 v7 : LI) (v8 v9 v34 v35 v62 v63 : Int) (v64 : Bool) (v1_0 v1_1 : Int) (v1_2 : LI) : St := stOf [(1, xb 1), (3, xo 1000192), (4, xo 1000256), (5, xo 1000320), (7, xo 1000448), (8, xi v8), (9, xi v9), (34, xi v34), (35, xi v35), (62, xi v62), (63, xi v63), (64, xB v64)] [(1, (30, [yi v1_0, yi v1_1, .sn 3 tI v1_2 none]))] [(1000192, (⟨3, .int .i64, v3, true, false⟩ : Row)), (1000256, (⟨3, .int .i64, v4, true, false⟩ : Row)), (1000320, (⟨3, .int .i64, v5, true, false⟩ : Row)), (1000448, (⟨3, .int .i64, v7, true, false⟩ : Row))]
noncomputable def f76l11 : Clean := ⟨[1, 3, 4, 5, 7, 8, 9, 34, 35, 62, 63, 64], [1], [], [], [(⟨false, 3, 0⟩, 1000192), (⟨false, 4, 0⟩, 1000256), (⟨false, 5, 0⟩, 1000320), (⟨false, 7, 0⟩, 1000448)]⟩
noncomputable def f76s12 (v3 v4 v5 v7 : LI) (v8 v9 v10 v34 v35 v62 v63 v1_0 v1_1 : Int) (v1_2 : LI) : St := stOf [(1, xb 1), (3, xo 1000192), (4, xo 1000256), (5, xo 1000320), (7, xo 1000448), (8, xi v8), (9, xi v9), (10, xi v10), (34, xi v34), (35, xi v35), (62, xi v62), (63, xi v63)] [(1, (30, [yi v1_0, yi v1_1, .sn 3 tI v1_2 none]))] [(1000192, (⟨3, .int .i64, v3, true, false⟩ : Row)), (1000256, (⟨3, .int .i64, v4, true, false⟩ : Row)), (1000320, (⟨3, .int .i64, v5, true, false⟩ : Row)), (1000448, (⟨3, .int .i64, v7, true, false⟩ : Row))]
noncomputable def f76l12 : Clean := ⟨[1, 3, 4, 5, 7, 8, 9, 10, 34, 35, 62, 63], [1], [], [], [(⟨false, 3, 0⟩, 1000192), (⟨false, 4, 0⟩, 1000256), (⟨false, 5, 0⟩, 1000320), (⟨false, 7, 0⟩, 1000448)]⟩
noncomputable def f76s13 (v3 v4 v5 v7 : LI) (v8 v9 v10 v11 v12 v34 v35 v62 v63 v1_0 v1_1 : Int) (v1_2 : LI) : St := stOf [(1, xb 1), (3, xo 1000192), (4, xo 1000256), (5, xo 1000320), (7, xo 1000448), (8, xi v8), (9, xi v9), (10, xi v10), (11, xi v11), (12, xi v12), (34, xi v34), (35, xi v35), (62, xi v62), (63, xi v63)] [(1, (30, [yi v1_0, yi v1_1, .sn 3 tI v1_2 none]))] [(1000192, (⟨3, .int .i64, v3, true, false⟩ : Row)), (1000256, (⟨3, .int .i64, v4, true, false⟩ : Row)), (1000320, (⟨3, .int .i64, v5, true, false⟩ : Row)), (1000448, (⟨3, .int .i64, v7, true, false⟩ : Row))]
noncomputable def f76l13 : Clean := ⟨[1, 3, 4, 5, 7, 8, 9, 10, 11, 12, 34, 35, 62, 63], [1], [], [], [(⟨false, 3, 0⟩, 1000192), (⟨false, 4, 0⟩, 1000256), (⟨false, 5, 0⟩, 1000320), (⟨false, 7, 0⟩, 1000448)]⟩
noncomputable def f76s14 (v3 v4 v5 v7 : LI) (v16 v34 v35 v1_0 v1_1 : Int) (v1_2 : LI) : St := stOf [(1, xb 1), (3, xo 1000192), (4, xo 1000256), (5, xo 1000320), (7, xo 1000448), (16, xi v16), (34, xi v34), (35, xi v35)] [(1, (30, [yi v1_0, yi v1_1, .sn 3 tI v1_2 none]))] [(1000192, (⟨3, .int .i64, v3, true, false⟩ : Row)), (1000256, (⟨3, .int .i64, v4, true, false⟩ : Row)), (1000320, (⟨3, .int .i64, v5, true, false⟩ : Row)), (1000448, (⟨3, .int .i64, v7, true, false⟩ : Row))]
noncomputable def f76l14 : Clean := ⟨[1, 3, 4, 5, 7, 16, 34, 35], [1], [], [], [(⟨false, 3, 0⟩, 1000192), (⟨false, 4, 0⟩, 1000256), (⟨false, 5, 0⟩, 1000320), (⟨false, 7, 0⟩, 1000448)]⟩
noncomputable def f76s15 (v3 v4 v5 v7 : LI) (v16 v34 v35 v159 v160 v1_0 v1_1 : Int) (v1_2 : LI) : St := stOf [(1, xb 1), (3, xo 1000192), (4, xo 1000256), (5, xo 1000320), (7, xo 1000448), (16, xi v16), (34, xi v34), (35, xi v35), (158, xo 1000448), (159, xi v159), (160, xi v160)] [(1, (30, [yi v1_0, yi v1_1, .sn 3 tI v1_2 none]))] [(1000192, (⟨3, .int .i64, v3, true, false⟩ : Row)), (1000256, (⟨3, .int .i64, v4, true, false⟩ : Row)), (1000320, (⟨3, .int .i64, v5, true, false⟩ : Row)), (1000448, (⟨3, .int .i64, v7, true, false⟩ : Row))]
noncomputable def f76l15 : Clean := ⟨[1, 3, 4, 5, 7, 16, 34, 35, 158, 159, 160], [1], [], [], [(⟨false, 3, 0⟩, 1000192), (⟨false, 4, 0⟩, 1000256), (⟨false, 5, 0⟩, 1000320), (⟨false, 7, 0⟩, 1000448)]⟩
noncomputable def f76s16 (v3 v4 v5 v7 : LI) (v16 v19 v34 v35 v1_0 v1_1 : Int) (v1_2 : LI) : St := stOf [(1, xb 1), (3, xo 1000192), (4, xo 1000256), (5, xo 1000320), (7, xo 1000448), (16, xi v16), (19, xi v19), (34, xi v34), (35, xi v35)] [(1, (30, [yi v1_0, yi v1_1, .sn 3 tI v1_2 none]))] [(1000192, (⟨3, .int .i64, v3, true, false⟩ : Row)), (1000256, (⟨3, .int .i64, v4, true, false⟩ : Row)), (1000320, (⟨3, .int .i64, v5, true, false⟩ : Row)), (1000448, (⟨3, .int .i64, v7, true, false⟩ : Row))]
noncomputable def f76l16 : Clean := ⟨[1, 3, 4, 5, 7, 16, 19, 34, 35], [1], [], [], [(⟨false, 3, 0⟩, 1000192), (⟨false, 4, 0⟩, 1000256), (⟨false, 5, 0⟩, 1000320), (⟨false, 7, 0⟩, 1000448)]⟩
noncomputable def f76s17 (v3 v4 v5 v7 : LI) (v16 v19 v34 v35 v179 v180 v1_0 v1_1 : Int) (v1_2 : LI) : St := stOf [(1, xb 1), (3, xo 1000192), (4, xo 1000256), (5, xo 1000320), (7, xo 1000448), (16, xi v16), (19, xi v19), (34, xi v34), (35, xi v35), (178, xo 1000448), (179, xi v179), (180, xi v180)] [(1, (30, [yi v1_0, yi v1_1, .sn 3 tI v1_2 none]))] [(1000192, (⟨3, .int .i64, v3, true, false⟩ : Row)), (1000256, (⟨3, .int .i64, v4, true, false⟩ : Row)), (1000320, (⟨3, .int .i64, v5, true, false⟩ : Row)), (1000448, (⟨3, .int .i64, v7, true, false⟩ : Row))]
noncomputable def f76l17 : Clean := ⟨[1, 3, 4, 5, 7, 16, 19, 34, 35, 178, 179, 180], [1], [], [], [(⟨false, 3, 0⟩, 1000192), (⟨false, 4, 0⟩, 1000256), (⟨false, 5, 0⟩, 1000320), (⟨false, 7, 0⟩, 1000448)]⟩
noncomputable def f76s18 (v3 v4 v5 v7 : LI) (v19 v34 v35 v1_0 v1_1 : Int) (v1_2 : LI) : St := stOf [(1, xb 1), (3, xo 1000192), (4, xo 1000256), (5, xo 1000320), (7, xo 1000448), (19, xi v19), (34, xi v34), (35, xi v35)] [(1, (30, [yi v1_0, yi v1_1, .sn 3 tI v1_2 none]))] [(1000192, (⟨3, .int .i64, v3, true, false⟩ : Row)), (1000256, (⟨3, .int .i64, v4, true, false⟩ : Row)), (1000320, (⟨3, .int .i64, v5, true, false⟩ : Row)), (1000448, (⟨3, .int .i64, v7, true, false⟩ : Row))]
noncomputable def f76l18 : Clean := ⟨[1, 3, 4, 5, 7, 19, 34, 35], [1], [], [], [(⟨false, 3, 0⟩, 1000192), (⟨false, 4, 0⟩, 1000256), (⟨false, 5, 0⟩, 1000320), (⟨false, 7, 0⟩, 1000448)]⟩
noncomputable def f76s19 (v3 v4 v5 v205 : LI) (v19 v34 v35 v206 v207 v1_0 v1_1 : Int) (v1_2 : LI) : St := stOf [(1, xb 1), (3, xo 1000192), (4, xo 1000256), (5, xo 1000320), (19, xi v19), (34, xi v34), (35, xi v35), (205, xo 1013120), (206, xi v206), (207, xi v207)] [(1, (30, [yi v1_0, yi v1_1, .sn 3 tI v1_2 none]))] [(1000192, (⟨3, .int .i64, v3, true, false⟩ : Row)), (1000256, (⟨3, .int .i64, v4, true, false⟩ : Row)), (1000320, (⟨3, .int .i64, v5, true, false⟩ : Row)), (1013120, (⟨3, .int .i64, v205, true, false⟩ : Row))]
noncomputable def f76l19 : Clean := ⟨[1, 3, 4, 5, 19, 34, 35, 205, 206, 207], [1], [], [], [(⟨false, 3, 0⟩, 1000192), (⟨false, 4, 0⟩, 1000256), (⟨false, 5, 0⟩, 1000320), (⟨false, 205, 0⟩, 1013120)]⟩
noncomputable def f76s20 (v5 : LI) : St := stOf [(5, xo 1000320)] [] [(1000320, (⟨3, .int .i64, v5, true, false⟩ : Row))]
noncomputable def f76l20 : Clean := ⟨[5], [], [], [], [(⟨false, 5, 0⟩, 1000320)]⟩
noncomputable def f76s21 (v2 : LI) : St := stOf [(2, xo 1001000128)] [] [(1001000128, (⟨3, .int .i64, v2, true, true⟩ : Row))]
noncomputable def f76l21 : Clean := ⟨[2], [], [⟨⟨false, 2, 0⟩, 30000000, 3, .int .i64, true⟩], [], [(⟨false, 2, 0⟩, 1001000128)]⟩
noncomputable def f76B : Nat → Option Clean := lookL [(5, f76l10), (4, f76l8), (3, f76l8), (2, f76l7), (6, f76l14), (8, f76l18), (10, f76l4), (1, f76l4), (0, f76l20), (1000000, f76l21)]
noncomputable abbrev f76i {ρ : Type} (N : Nat) (c : Code) (p : Plan) (σ : St) (K : KT ρ) : Option ρ := iCode f76G tab f76B N c p σ K
noncomputable def f76c (n : Nat) : Code := codeN 99 (bodyOf Try.f76) n
theorem f76t1 N v0 (K : KT ρ) : f76i N (f76c 2) .n (f76s0 v0) (joinK (some f76l1) K) =
  impl_factors.Z1 N v0 (fun v1_0 v1_1 v1_2 => K .nrm (f76s1 v1_0 v1_1 v1_2)) := by kernel_rfl
theorem f76t3 N v1_0 v1_1 v1_2 (K : KT ρ) : f76i N (f76c 5) .n (f76s1 v1_0 v1_1 v1_2) (joinK (some f76l2) K) =
  impl_factors.Z3 N v1_0 v1_1 v1_2 (fun v3 v4 v1_0 v1_1 v1_2 => K .nrm (f76s2 v3 v4 v1_0 v1_1 v1_2)) := by kernel_rfl
theorem f76t5 N v3 v4 v1_0 v1_1 v1_2 (K : KT ρ) : f76i N (f76c 11) .n (f76s2 v3 v4 v1_0 v1_1 v1_2) (joinK (some f76l3) K) =
  impl_factors.Z5 N v3 v4 v1_0 v1_1 v1_2 (fun v3 v4 v5 v1_0 v1_1 v1_2 => K .nrm (f76s3 v3 v4 v5 v1_0 v1_1 v1_2)) := by kernel_rfl
theorem f76t8 N v3 v4 v5 v1_0 v1_1 v1_2 (K : KT ρ) : f76i N (f76c 39) .n (f76s3 v3 v4 v5 v1_0 v1_1 v1_2) (joinK (some f76l4) K) =
  impl_factors.Z8 N v3 v4 v5 v1_0 v1_1 v1_2 (fun v3 v4 v5 v34 v35 v1_0 v1_1 v1_2 => K .nrm (f76s4 v3 v4 v5 v34 v35 v1_0 v1_1 v1_2)) := by kernel_rfl
theorem f76t12 N v3 v4 v5 v34 v35 v1_0 v1_1 v1_2 (K : KT ρ) : f76i N (f76c 279) .n (f76s4 v3 v4 v5 v34 v35 v1_0 v1_1 v1_2) (joinK (some f76l5) K) =
  impl_factors.Z12 N v3 v4 v5 v34 v35 v1_0 v1_1 v1_2 (fun v3 v4 v5 v34 v35 v36 v1_0 v1_1 v1_2 => K .nrm (f76s5 v3 v4 v5 v34 v35 v36 v1_0 v1_1 v1_2)) := by kernel_rfl
theorem f76t14 N v3 v4 v5 v34 v35 v36 v1_0 v1_1 v1_2 (K : KT ρ) : f76i N (f76c 663) .n (f76s5 v3 v4 v5 v34 v35 v36 v1_0 v1_1 v1_2) (joinK (some f76l4) K) =
  impl_factors.Z14 N v3 v4 v5 v34 v35 v36 v1_0 v1_1 v1_2 (fun v3 v4 v5 v34 v35 v1_0 v1_1 v1_2 => K .nrm (f76s4 v3 v4 v5 v34 v35 v1_0 v1_1 v1_2)) (fun v5 => K (.exit 0) (f76s20 v5)) := by kernel_rfl
theorem f76t18 N v3 v4 v5 v34 v35 v1_0 v1_1 v1_2 (K : KT ρ) : f76i N (f76c 4503) .n (f76s4 v3 v4 v5 v34 v35 v1_0 v1_1 v1_2) (joinK (some f76l6) K) =
  impl_factors.Z18 N v3 v4 v5 v34 v35 v1_0 v1_1 v1_2 (fun v3 v4 v5 v6 v34 v35 v1_0 v1_1 v1_2 => K .nrm (f76s6 v3 v4 v5 v6 v34 v35 v1_0 v1_1 v1_2)) := by kernel_rfl
theorem f76t20 N v3 v4 v5 v6 v34 v35 v1_0 v1_1 v1_2 (K : KT ρ) : f76i N (f76c 10647) .n (f76s6 v3 v4 v5 v6 v34 v35 v1_0 v1_1 v1_2) (joinK (some f76l6) K) =
  impl_factors.Z20 N v3 v4 v5 v6 v34 v35 v1_0 v1_1 v1_2 (fun v3 v4 v5 v6 v34 v35 v1_0 v1_1 v1_2 => K .nrm (f76s6 v3 v4 v5 v6 v34 v35 v1_0 v1_1 v1_2)) (fun v3 v4 v5 v34 v35 v1_0 v1_1 v1_2 => K (.exit 1) (f76s4 v3 v4 v5 v34 v35 v1_0 v1_1 v1_2)) := by kernel_rfl
theorem f76t22 N v3 v4 v5 v6 v34 v35 v1_0 v1_1 v1_2 (K : KT ρ) : f76i N (f76c 22935) .n (f76s6 v3 v4 v5 v6 v34 v35 v1_0 v1_1 v1_2) (joinK (some f76l6) K) =
  impl_factors.Z22 N v3 v4 v5 v6 v34 v35 v1_0 v1_1 v1_2 (fun v3 v4 v5 v6 v34 v35 v1_0 v1_1 v1_2 => K .nrm (f76s6 v3 v4 v5 v6 v34 v35 v1_0 v1_1 v1_2)) := by kernel_rfl
theorem f76t24 N v3 v4 v5 v6 v34 v35 v1_0 v1_1 v1_2 (K : KT ρ) : f76i N (f76c 47511) .n (f76s6 v3 v4 v5 v6 v34 v35 v1_0 v1_1 v1_2) (joinK (some f76l7) K) =
  impl_factors.Z24 N v3 v4 v5 v6 v34 v35 v1_0 v1_1 v1_2 (fun v3 v4 v5 v7 v34 v35 v1_0 v1_1 v1_2 => K .nrm (f76s7 v3 v4 v5 v7 v34 v35 v1_0 v1_1 v1_2)) := by kernel_rfl
theorem f76t27 N v3 v4 v5 v7 v34 v35 v1_0 v1_1 v1_2 (K : KT ρ) : f76i N (f76c 162199) .n (f76s7 v3 v4 v5 v7 v34 v35 v1_0 v1_1 v1_2) (joinK (some f76l8) K) =
  impl_factors.Z27 N v3 v4 v5 v7 v34 v35 v1_0 v1_1 v1_2 (fun v3 v4 v5 v7 v8 v34 v35 v1_0 v1_1 v1_2 => K .nrm (f76s8 v3 v4 v5 v7 v8 v34 v35 v1_0 v1_1 v1_2)) := by kernel_rfl
theorem f76t31 N v3 v4 v5 v7 v8 v34 v35 v1_0 v1_1 v1_2 (K : KT ρ) : f76i N (f76c 1145239) .n (f76s8 v3 v4 v5 v7 v8 v34 v35 v1_0 v1_1 v1_2) (joinK (some f76l8) K) =
  impl_factors.Z31 N v3 v4 v5 v7 v8 v34 v35 v1_0 v1_1 v1_2 (fun v3 v4 v5 v7 v8 v34 v35 v1_0 v1_1 v1_2 => K .nrm (f76s8 v3 v4 v5 v7 v8 v34 v35 v1_0 v1_1 v1_2)) (fun v3 v4 v5 v7 v34 v35 v1_0 v1_1 v1_2 => K (.exit 2) (f76s7 v3 v4 v5 v7 v34 v35 v1_0 v1_1 v1_2)) := by kernel_rfl
theorem f76t35 N v3 v4 v5 v7 v8 v34 v35 v1_0 v1_1 v1_2 (K : KT ρ) : f76i N (f76c 9009559) .n (f76s8 v3 v4 v5 v7 v8 v34 v35 v1_0 v1_1 v1_2) (joinK (some f76l9) K) =
  impl_factors.Z35 N v3 v4 v5 v7 v8 v34 v35 v1_0 v1_1 v1_2 (fun v3 v4 v5 v7 v8 v9 v34 v35 v1_0 v1_1 v1_2 => K .nrm (f76s9 v3 v4 v5 v7 v8 v9 v34 v35 v1_0 v1_1 v1_2)) := by kernel_rfl
theorem f76t37 N v3 v4 v5 v7 v8 v9 v34 v35 v1_0 v1_1 v1_2 (K : KT ρ) : f76i N (f76c 21592471) .n (f76s9 v3 v4 v5 v7 v8 v9 v34 v35 v1_0 v1_1 v1_2) (joinK (some f76l10) K) =
  impl_factors.Z37 N v3 v4 v5 v7 v8 v9 v34 v35 v1_0 v1_1 v1_2 (fun v3 v4 v5 v7 v8 v9 v34 v35 v62 v63 v1_0 v1_1 v1_2 => K .nrm (f76s10 v3 v4 v5 v7 v8 v9 v34 v35 v62 v63 v1_0 v1_1 v1_2)) := by kernel_rfl
theorem f76t41 N v3 v4 v5 v7 v8 v9 v34 v35 v62 v63 v1_0 v1_1 v1_2 (K : KT ρ) : f76i N (f76c 147421591) .n (f76s10 v3 v4 v5 v7 v8 v9 v34 v35 v62 v63 v1_0 v1_1 v1_2) (joinK (some f76l11) K) =
  impl_factors.Z41 N v3 v4 v5 v7 v8 v9 v34 v35 v62 v63 v1_0 v1_1 v1_2 (fun v3 v4 v5 v7 v8 v9 v34 v35 v62 v63 v64 v1_0 v1_1 v1_2 => K .nrm (f76s11 v3 v4 v5 v7 v8 v9 v34 v35 v62 v63 v64 v1_0 v1_1 v1_2)) := by kernel_rfl
theorem f76t43 N v3 v4 v5 v7 v8 v9 v34 v35 v62 v63 v64 v1_0 v1_1 v1_2 (K : KT ρ) : f76i N (f76c 348748183) .n (f76s11 v3 v4 v5 v7 v8 v9 v34 v35 v62 v63 v64 v1_0 v1_1 v1_2) (joinK (some f76l10) K) =
  impl_factors.Z43 N v3 v4 v5 v7 v8 v9 v34 v35 v62 v63 v64 v1_0 v1_1 v1_2 (fun v3 v4 v5 v7 v8 v9 v34 v35 v62 v63 v1_0 v1_1 v1_2 => K .nrm (f76s10 v3 v4 v5 v7 v8 v9 v34 v35 v62 v63 v1_0 v1_1 v1_2)) (fun v3 v4 v5 v7 v8 v34 v35 v1_0 v1_1 v1_2 => K (.exit 4) (f76s8 v3 v4 v5 v7 v8 v34 v35 v1_0 v1_1 v1_2)) := by kernel_rfl
theorem f76t47 N v3 v4 v5 v7 v8 v9 v34 v35 v62 v63 v1_0 v1_1 v1_2 (K : KT ρ) : f76i N (f76c 2362014103) .n (f76s10 v3 v4 v5 v7 v8 v9 v34 v35 v62 v63 v1_0 v1_1 v1_2) (joinK (some f76l12) K) =
  impl_factors.Z47 N v3 v4 v5 v7 v8 v9 v34 v35 v62 v63 v1_0 v1_1 v1_2 (fun v3 v4 v5 v7 v8 v9 v10 v34 v35 v62 v63 v1_0 v1_1 v1_2 => K .nrm (f76s12 v3 v4 v5 v7 v8 v9 v10 v34 v35 v62 v63 v1_0 v1_1 v1_2)) := by kernel_rfl
theorem f76t49 N v3 v4 v5 v7 v8 v9 v10 v34 v35 v62 v63 v1_0 v1_1 v1_2 (K : KT ρ) : f76i N (f76c 5583239575) .n (f76s12 v3 v4 v5 v7 v8 v9 v10 v34 v35 v62 v63 v1_0 v1_1 v1_2) (joinK (some f76l13) K) =
  impl_factors.Z49 N v3 v4 v5 v7 v8 v9 v10 v34 v35 v62 v63 v1_0 v1_1 v1_2 (fun v3 v4 v5 v7 v8 v9 v10 v11 v12 v34 v35 v62 v63 v1_0 v1_1 v1_2 => K .nrm (f76s13 v3 v4 v5 v7 v8 v9 v10 v11 v12 v34 v35 v62 v63 v1_0 v1_1 v1_2)) := by kernel_rfl
theorem f76t51 N v3 v4 v5 v7 v8 v9 v10 v11 v12 v34 v35 v62 v63 v1_0 v1_1 v1_2 (K : KT ρ) : f76i N (f76c 12025690519) .n (f76s13 v3 v4 v5 v7 v8 v9 v10 v11 v12 v34 v35 v62 v63 v1_0 v1_1 v1_2) (joinK (some f76l13) K) =
  impl_factors.Z51 N v3 v4 v5 v7 v8 v9 v10 v11 v12 v34 v35 v62 v63 v1_0 v1_1 v1_2 (fun v3 v4 v5 v7 v8 v9 v10 v11 v12 v34 v35 v62 v63 v1_0 v1_1 v1_2 => K .nrm (f76s13 v3 v4 v5 v7 v8 v9 v10 v11 v12 v34 v35 v62 v63 v1_0 v1_1 v1_2)) (fun v3 v4 v5 v7 v8 v9 v34 v35 v62 v63 v1_0 v1_1 v1_2 => K (.exit 5) (f76s10 v3 v4 v5 v7 v8 v9 v34 v35 v62 v63 v1_0 v1_1 v1_2)) := by kernel_rfl
theorem f76t52 N v3 v4 v5 v7 v8 v9 v10 v11 v12 v34 v35 v62 v63 v1_0 v1_1 v1_2 (K : KT ρ) : f76i N (f76c 16320657815) .n (f76s13 v3 v4 v5 v7 v8 v9 v10 v11 v12 v34 v35 v62 v63 v1_0 v1_1 v1_2) (joinK (some f76l10) K) =
  impl_factors.Z52 N v3 v4 v5 v7 v8 v9 v10 v11 v12 v34 v35 v62 v63 v1_0 v1_1 v1_2 (fun v3 v4 v5 v7 v8 v9 v34 v35 v62 v63 v1_0 v1_1 v1_2 => K .nrm (f76s10 v3 v4 v5 v7 v8 v9 v34 v35 v62 v63 v1_0 v1_1 v1_2)) (fun v2 => K .ret (f76s21 v2)) := by kernel_rfl
noncomputable def f76p50 : Plan := .mk (some f76l13) none .n .n
theorem f76t50 N v3 v4 v5 v7 v8 v9 v10 v11 v12 v34 v35 v62 v63 v1_0 v1_1 v1_2 (K : KT ρ) : f76i N (f76c 7730723223) f76p50 (f76s13 v3 v4 v5 v7 v8 v9 v10 v11 v12 v34 v35 v62 v63 v1_0 v1_1 v1_2) (joinK (some f76l10) K) =
  impl_factors.Z50 N v3 v4 v5 v7 v8 v9 v10 v11 v12 v34 v35 v62 v63 v1_0 v1_1 v1_2 (fun v3 v4 v5 v7 v8 v9 v34 v35 v62 v63 v1_0 v1_1 v1_2 => K .nrm (f76s10 v3 v4 v5 v7 v8 v9 v34 v35 v62 v63 v1_0 v1_1 v1_2)) (fun v3 v4 v5 v7 v8 v9 v34 v35 v62 v63 v1_0 v1_1 v1_2 => K (.exit 5) (f76s10 v3 v4 v5 v7 v8 v9 v34 v35 v62 v63 v1_0 v1_1 v1_2)) (fun v2 => K .ret (f76s21 v2)) :=
 viaSeqS (fun k => impl_factors.Z51 N v3 v4 v5 v7 v8 v9 v10 v11 v12 v34 v35 v62 v63 v1_0 v1_1 v1_2 k (fun v3 v4 v5 v7 v8 v9 v34 v35 v62 v63 v1_0 v1_1 v1_2 => K (.exit 5) (f76s10 v3 v4 v5 v7 v8 v9 v34 v35 v62 v63 v1_0 v1_1 v1_2))) (by kernel_rfl) (f76t51 N (K := seqK (fun σ => f76i N (f76c 16320657815) .n σ (joinK (some f76l10) K)) (joinK (some f76l10) K)) ..) (fx16 fun v3 v4 v5 v7 v8 v9 v10 v11 v12 v34 v35 v62 v63 v1_0 v1_1 v1_2 => f76t52 N v3 v4 v5 v7 v8 v9 v10 v11 v12 v34 v35 v62 v63 v1_0 v1_1 v1_2 K) (by kernel_rfl)
noncomputable def f76p48 : Plan := .mk (some f76l13) none .n f76p50
theorem f76t48 N v3 v4 v5 v7 v8 v9 v10 v34 v35 v62 v63 v1_0 v1_1 v1_2 (K : KT ρ) : f76i N (f76c 3435755927) f76p48 (f76s12 v3 v4 v5 v7 v8 v9 v10 v34 v35 v62 v63 v1_0 v1_1 v1_2) (joinK (some f76l10) K) =
  impl_factors.Z48 N v3 v4 v5 v7 v8 v9 v10 v34 v35 v62 v63 v1_0 v1_1 v1_2 (fun v3 v4 v5 v7 v8 v9 v34 v35 v62 v63 v1_0 v1_1 v1_2 => K .nrm (f76s10 v3 v4 v5 v7 v8 v9 v34 v35 v62 v63 v1_0 v1_1 v1_2)) (fun v3 v4 v5 v7 v8 v9 v34 v35 v62 v63 v1_0 v1_1 v1_2 => K (.exit 5) (f76s10 v3 v4 v5 v7 v8 v9 v34 v35 v62 v63 v1_0 v1_1 v1_2)) (fun v2 => K .ret (f76s21 v2)) :=
 viaSeqS (fun k => impl_factors.Z49 N v3 v4 v5 v7 v8 v9 v10 v34 v35 v62 v63 v1_0 v1_1 v1_2 k) (by kernel_rfl) (f76t49 N (K := seqK (fun σ => f76i N (f76c 7730723223) f76p50 σ (joinK (some f76l10) K)) (joinK (some f76l10) K)) ..) (fx16 fun v3 v4 v5 v7 v8 v9 v10 v11 v12 v34 v35 v62 v63 v1_0 v1_1 v1_2 => f76t50 N v3 v4 v5 v7 v8 v9 v10 v11 v12 v34 v35 v62 v63 v1_0 v1_1 v1_2 K) (by kernel_rfl)
noncomputable def f76p46 : Plan := .mk (some f76l12) none .n f76p48
theorem f76t46 N v3 v4 v5 v7 v8 v9 v34 v35 v62 v63 v1_0 v1_1 v1_2 (K : KT ρ) : f76i N (f76c 1288272279) f76p46 (f76s10 v3 v4 v5 v7 v8 v9 v34 v35 v62 v63 v1_0 v1_1 v1_2) (joinK (some f76l10) K) =
  impl_factors.Z46 N v3 v4 v5 v7 v8 v9 v34 v35 v62 v63 v1_0 v1_1 v1_2 (fun v3 v4 v5 v7 v8 v9 v34 v35 v62 v63 v1_0 v1_1 v1_2 => K .nrm (f76s10 v3 v4 v5 v7 v8 v9 v34 v35 v62 v63 v1_0 v1_1 v1_2)) (fun v3 v4 v5 v7 v8 v9 v34 v35 v62 v63 v1_0 v1_1 v1_2 => K (.exit 5) (f76s10 v3 v4 v5 v7 v8 v9 v34 v35 v62 v63 v1_0 v1_1 v1_2)) (fun v2 => K .ret (f76s21 v2)) :=
 viaSeqS (fun k => impl_factors.Z47 N v3 v4 v5 v7 v8 v9 v34 v35 v62 v63 v1_0 v1_1 v1_2 k) (by kernel_rfl) (f76t47 N (K := seqK (fun σ => f76i N (f76c 3435755927) f76p48 σ (joinK (some f76l10) K)) (joinK (some f76l10) K)) ..) (fx14 fun v3 v4 v5 v7 v8 v9 v10 v34 v35 v62 v63 v1_0 v1_1 v1_2 => f76t48 N v3 v4 v5 v7 v8 v9 v10 v34 v35 v62 v63 v1_0 v1_1 v1_2 K) (by kernel_rfl)
noncomputable def f76p45 : Plan := .mk (some f76l10) none f76p46 .n
theorem f76t45 N v3 v4 v5 v7 v8 v9 v34 v35 v62 v63 v1_0 v1_1 v1_2 (K : KT ρ) : f76i N (f76c 751401367) f76p45 (f76s10 v3 v4 v5 v7 v8 v9 v34 v35 v62 v63 v1_0 v1_1 v1_2) (joinK (some f76l10) K) =
  impl_factors.Z45 N v3 v4 v5 v7 v8 v9 v34 v35 v62 v63 v1_0 v1_1 v1_2 (fun v3 v4 v5 v7 v8 v9 v34 v35 v62 v63 v1_0 v1_1 v1_2 => K .nrm (f76s10 v3 v4 v5 v7 v8 v9 v34 v35 v62 v63 v1_0 v1_1 v1_2)) (fun v2 => K .ret (f76s21 v2)) :=
 viaBlockS (by kernel_rfl) (f76t46 N (K := blockK 5 (joinK (some f76l10) K)) ..) (by kernel_rfl)
theorem f76t53 N v3 v4 v5 v7 v8 v9 v34 v35 v62 v63 v1_0 v1_1 v1_2 (K : KT ρ) : f76i N (f76c 1019836823) .n (f76s10 v3 v4 v5 v7 v8 v9 v34 v35 v62 v63 v1_0 v1_1 v1_2) (joinK (some f76l10) K) =
  impl_factors.Z53 N v3 v4 v5 v7 v8 v9 v34 v35 v62 v63 v1_0 v1_1 v1_2 (fun v3 v4 v5 v7 v8 v9 v34 v35 v62 v63 v1_0 v1_1 v1_2 => K .nrm (f76s10 v3 v4 v5 v7 v8 v9 v34 v35 v62 v63 v1_0 v1_1 v1_2)) := by kernel_rfl
noncomputable def f76p44 : Plan := .mk (some f76l10) none f76p45 .n
theorem f76t44 N v3 v4 v5 v7 v8 v9 v34 v35 v62 v63 v1_0 v1_1 v1_2 (K : KT ρ) : f76i N (f76c 482965911) f76p44 (f76s10 v3 v4 v5 v7 v8 v9 v34 v35 v62 v63 v1_0 v1_1 v1_2) (joinK (some f76l10) K) =
  impl_factors.Z44 N v3 v4 v5 v7 v8 v9 v34 v35 v62 v63 v1_0 v1_1 v1_2 (fun v3 v4 v5 v7 v8 v9 v34 v35 v62 v63 v1_0 v1_1 v1_2 => K .nrm (f76s10 v3 v4 v5 v7 v8 v9 v34 v35 v62 v63 v1_0 v1_1 v1_2)) (fun v2 => K .ret (f76s21 v2)) :=
 viaSeqS (fun k => impl_factors.Z45 N v3 v4 v5 v7 v8 v9 v34 v35 v62 v63 v1_0 v1_1 v1_2 k (fun v2 => K .ret (f76s21 v2))) (by kernel_rfl) (f76t45 N (K := seqK (fun σ => f76i N (f76c 1019836823) .n σ (joinK (some f76l10) K)) (joinK (some f76l10) K)) ..) (fx13 fun v3 v4 v5 v7 v8 v9 v34 v35 v62 v63 v1_0 v1_1 v1_2 => f76t53 N v3 v4 v5 v7 v8 v9 v34 v35 v62 v63 v1_0 v1_1 v1_2 K) (by kernel_rfl)
noncomputable def f76p42 : Plan := .mk (some f76l10) none .n f76p44
theorem f76t42 N v3 v4 v5 v7 v8 v9 v34 v35 v62 v63 v64 v1_0 v1_1 v1_2 (K : KT ρ) : f76i N (f76c 214530455) f76p42 (f76s11 v3 v4 v5 v7 v8 v9 v34 v35 v62 v63 v64 v1_0 v1_1 v1_2) (joinK (some f76l10) K) =
  impl_factors.Z42 N v3 v4 v5 v7 v8 v9 v34 v35 v62 v63 v64 v1_0 v1_1 v1_2 (fun v3 v4 v5 v7 v8 v9 v34 v35 v62 v63 v1_0 v1_1 v1_2 => K .nrm (f76s10 v3 v4 v5 v7 v8 v9 v34 v35 v62 v63 v1_0 v1_1 v1_2)) (fun v3 v4 v5 v7 v8 v34 v35 v1_0 v1_1 v1_2 => K (.exit 4) (f76s8 v3 v4 v5 v7 v8 v34 v35 v1_0 v1_1 v1_2)) (fun v2 => K .ret (f76s21 v2)) :=
 viaSeqS (fun k => impl_factors.Z43 N v3 v4 v5 v7 v8 v9 v34 v35 v62 v63 v64 v1_0 v1_1 v1_2 k (fun v3 v4 v5 v7 v8 v34 v35 v1_0 v1_1 v1_2 => K (.exit 4) (f76s8 v3 v4 v5 v7 v8 v34 v35 v1_0 v1_1 v1_2))) (by kernel_rfl) (f76t43 N (K := seqK (fun σ => f76i N (f76c 482965911) f76p44 σ (joinK (some f76l10) K)) (joinK (some f76l10) K)) ..) (fx13 fun v3 v4 v5 v7 v8 v9 v34 v35 v62 v63 v1_0 v1_1 v1_2 => f76t44 N v3 v4 v5 v7 v8 v9 v34 v35 v62 v63 v1_0 v1_1 v1_2 K) (by kernel_rfl)
noncomputable def f76p40 : Plan := .mk (some f76l11) none .n f76p42
theorem f76t40 N v3 v4 v5 v7 v8 v9 v34 v35 v62 v63 v1_0 v1_1 v1_2 (K : KT ρ) : f76i N (f76c 80312727) f76p40 (f76s10 v3 v4 v5 v7 v8 v9 v34 v35 v62 v63 v1_0 v1_1 v1_2) (joinK (some f76l10) K) =
  impl_factors.Z40 N v3 v4 v5 v7 v8 v9 v34 v35 v62 v63 v1_0 v1_1 v1_2 (fun v3 v4 v5 v7 v8 v9 v34 v35 v62 v63 v1_0 v1_1 v1_2 => K .nrm (f76s10 v3 v4 v5 v7 v8 v9 v34 v35 v62 v63 v1_0 v1_1 v1_2)) (fun v3 v4 v5 v7 v8 v34 v35 v1_0 v1_1 v1_2 => K (.exit 4) (f76s8 v3 v4 v5 v7 v8 v34 v35 v1_0 v1_1 v1_2)) (fun v2 => K .ret (f76s21 v2)) :=
 viaSeqS (fun k => impl_factors.Z41 N v3 v4 v5 v7 v8 v9 v34 v35 v62 v63 v1_0 v1_1 v1_2 k) (by kernel_rfl) (f76t41 N (K := seqK (fun σ => f76i N (f76c 214530455) f76p42 σ (joinK (some f76l10) K)) (joinK (some f76l10) K)) ..) (fx14 fun v3 v4 v5 v7 v8 v9 v34 v35 v62 v63 v64 v1_0 v1_1 v1_2 => f76t42 N v3 v4 v5 v7 v8 v9 v34 v35 v62 v63 v64 v1_0 v1_1 v1_2 K) (by kernel_rfl)
noncomputable def f76p39 : Plan := .mk none (some f76l10) f76p40 .n
noncomputable abbrev f76w39 {ρ : Type} (N M : Nat) (σ : St) (K : KT ρ) : Option ρ := loopC (fun σ K => f76i N (f76c 80312727) f76p40 σ K) f76l10 M σ K
theorem f76t39L {ρ : Type} (N : Nat) (K : KT ρ) : ∀ (M : Nat) (v3 v4 v5 v7 : LI) (v8 v9 v34 v35 v62 v63 v1_0 v1_1 : Int) (v1_2 : LI), f76w39 N M (f76s10 v3 v4 v5 v7 v8 v9 v34 v35 v62 v63 v1_0 v1_1 v1_2) K =
  impl_factors.Z39L N (fun v3 v4 v5 v7 v8 v34 v35 v1_0 v1_1 v1_2 => K (.exit 4) (f76s8 v3 v4 v5 v7 v8 v34 v35 v1_0 v1_1 v1_2)) (fun v2 => K .ret (f76s21 v2)) M v3 v4 v5 v7 v8 v9 v34 v35 v62 v63 v1_0 v1_1 v1_2
  | 0, _, _, _, _, _, _, _, _, _, _, _, _, _ => rfl
  | M + 1, v3, v4, v5, v7, v8, v9, v34, v35, v62, v63, v1_0, v1_1, v1_2 => viaRoundS (fun k => impl_factors.Z40 N v3 v4 v5 v7 v8 v9 v34 v35 v62 v63 v1_0 v1_1 v1_2 k (fun v3 v4 v5 v7 v8 v34 v35 v1_0 v1_1 v1_2 => K (.exit 4) (f76s8 v3 v4 v5 v7 v8 v34 v35 v1_0 v1_1 v1_2)) (fun v2 => K .ret (f76s21 v2))) (f76t40 N (K := seqK (fun σ => f76w39 N M σ K) K) ..) (fx13 fun v3 v4 v5 v7 v8 v9 v34 v35 v62 v63 v1_0 v1_1 v1_2 => f76t39L N K M v3 v4 v5 v7 v8 v9 v34 v35 v62 v63 v1_0 v1_1 v1_2) (by kernel_rfl)
theorem f76t39 N v3 v4 v5 v7 v8 v9 v34 v35 v62 v63 v1_0 v1_1 v1_2 (K : KT ρ) : f76i N (f76c 46758295) f76p39 (f76s10 v3 v4 v5 v7 v8 v9 v34 v35 v62 v63 v1_0 v1_1 v1_2) (joinK (some f76l8) K) =
  impl_factors.Z39 N v3 v4 v5 v7 v8 v9 v34 v35 v62 v63 v1_0 v1_1 v1_2 (fun v3 v4 v5 v7 v8 v34 v35 v1_0 v1_1 v1_2 => K (.exit 4) (f76s8 v3 v4 v5 v7 v8 v34 v35 v1_0 v1_1 v1_2)) (fun v2 => K .ret (f76s21 v2)) :=
 viaLoopS (by kernel_rfl) (f76t39L N (joinK (some f76l8) K) N v3 v4 v5 v7 v8 v9 v34 v35 v62 v63 v1_0 v1_1 v1_2) (by kernel_rfl)
noncomputable def f76p38 : Plan := .mk (some f76l8) none f76p39 .n
theorem f76t38 N v3 v4 v5 v7 v8 v9 v34 v35 v62 v63 v1_0 v1_1 v1_2 (K : KT ρ) : f76i N (f76c 29981079) f76p38 (f76s10 v3 v4 v5 v7 v8 v9 v34 v35 v62 v63 v1_0 v1_1 v1_2) (joinK (some f76l8) K) =
  impl_factors.Z38 N v3 v4 v5 v7 v8 v9 v34 v35 v62 v63 v1_0 v1_1 v1_2 (fun v3 v4 v5 v7 v8 v34 v35 v1_0 v1_1 v1_2 => K .nrm (f76s8 v3 v4 v5 v7 v8 v34 v35 v1_0 v1_1 v1_2)) (fun v2 => K .ret (f76s21 v2)) :=
 viaBlockS (by kernel_rfl) (f76t39 N (K := blockK 4 (joinK (some f76l8) K)) ..) (by kernel_rfl)
noncomputable def f76p36 : Plan := .mk (some f76l10) none .n f76p38
theorem f76t36 N v3 v4 v5 v7 v8 v9 v34 v35 v1_0 v1_1 v1_2 (K : KT ρ) : f76i N (f76c 13203863) f76p36 (f76s9 v3 v4 v5 v7 v8 v9 v34 v35 v1_0 v1_1 v1_2) (joinK (some f76l8) K) =
  impl_factors.Z36 N v3 v4 v5 v7 v8 v9 v34 v35 v1_0 v1_1 v1_2 (fun v3 v4 v5 v7 v8 v34 v35 v1_0 v1_1 v1_2 => K .nrm (f76s8 v3 v4 v5 v7 v8 v34 v35 v1_0 v1_1 v1_2)) (fun v2 => K .ret (f76s21 v2)) :=
 viaSeqS (fun k => impl_factors.Z37 N v3 v4 v5 v7 v8 v9 v34 v35 v1_0 v1_1 v1_2 k) (by kernel_rfl) (f76t37 N (K := seqK (fun σ => f76i N (f76c 29981079) f76p38 σ (joinK (some f76l8) K)) (joinK (some f76l8) K)) ..) (fx13 fun v3 v4 v5 v7 v8 v9 v34 v35 v62 v63 v1_0 v1_1 v1_2 => f76t38 N v3 v4 v5 v7 v8 v9 v34 v35 v62 v63 v1_0 v1_1 v1_2 K) (by kernel_rfl)
noncomputable def f76p34 : Plan := .mk (some f76l9) none .n f76p36
theorem f76t34 N v3 v4 v5 v7 v8 v34 v35 v1_0 v1_1 v1_2 (K : KT ρ) : f76i N (f76c 4815255) f76p34 (f76s8 v3 v4 v5 v7 v8 v34 v35 v1_0 v1_1 v1_2) (joinK (some f76l8) K) =
  impl_factors.Z34 N v3 v4 v5 v7 v8 v34 v35 v1_0 v1_1 v1_2 (fun v3 v4 v5 v7 v8 v34 v35 v1_0 v1_1 v1_2 => K .nrm (f76s8 v3 v4 v5 v7 v8 v34 v35 v1_0 v1_1 v1_2)) (fun v2 => K .ret (f76s21 v2)) :=
 viaSeqS (fun k => impl_factors.Z35 N v3 v4 v5 v7 v8 v34 v35 v1_0 v1_1 v1_2 k) (by kernel_rfl) (f76t35 N (K := seqK (fun σ => f76i N (f76c 13203863) f76p36 σ (joinK (some f76l8) K)) (joinK (some f76l8) K)) ..) (fx11 fun v3 v4 v5 v7 v8 v9 v34 v35 v1_0 v1_1 v1_2 => f76t36 N v3 v4 v5 v7 v8 v9 v34 v35 v1_0 v1_1 v1_2 K) (by kernel_rfl)
noncomputable def f76p33 : Plan := .mk (some f76l8) none f76p34 .n
theorem f76t33 N v3 v4 v5 v7 v8 v34 v35 v1_0 v1_1 v1_2 (K : KT ρ) : f76i N (f76c 2718103) f76p33 (f76s8 v3 v4 v5 v7 v8 v34 v35 v1_0 v1_1 v1_2) (joinK (some f76l8) K) =
  impl_factors.Z33 N v3 v4 v5 v7 v8 v34 v35 v1_0 v1_1 v1_2 (fun v3 v4 v5 v7 v8 v34 v35 v1_0 v1_1 v1_2 => K .nrm (f76s8 v3 v4 v5 v7 v8 v34 v35 v1_0 v1_1 v1_2)) (fun v2 => K .ret (f76s21 v2)) :=
 viaBlockS (by kernel_rfl) (f76t34 N (K := blockK 3 (joinK (some f76l8) K)) ..) (by kernel_rfl)
theorem f76t54 N v3 v4 v5 v7 v8 v34 v35 v1_0 v1_1 v1_2 (K : KT ρ) : f76i N (f76c 3766679) .n (f76s8 v3 v4 v5 v7 v8 v34 v35 v1_0 v1_1 v1_2) (joinK (some f76l8) K) =
  impl_factors.Z54 N v3 v4 v5 v7 v8 v34 v35 v1_0 v1_1 v1_2 (fun v3 v4 v5 v7 v8 v34 v35 v1_0 v1_1 v1_2 => K .nrm (f76s8 v3 v4 v5 v7 v8 v34 v35 v1_0 v1_1 v1_2)) := by kernel_rfl
noncomputable def f76p32 : Plan := .mk (some f76l8) none f76p33 .n
theorem f76t32 N v3 v4 v5 v7 v8 v34 v35 v1_0 v1_1 v1_2 (K : KT ρ) : f76i N (f76c 1669527) f76p32 (f76s8 v3 v4 v5 v7 v8 v34 v35 v1_0 v1_1 v1_2) (joinK (some f76l8) K) =
  impl_factors.Z32 N v3 v4 v5 v7 v8 v34 v35 v1_0 v1_1 v1_2 (fun v3 v4 v5 v7 v8 v34 v35 v1_0 v1_1 v1_2 => K .nrm (f76s8 v3 v4 v5 v7 v8 v34 v35 v1_0 v1_1 v1_2)) (fun v2 => K .ret (f76s21 v2)) :=
 viaSeqS (fun k => impl_factors.Z33 N v3 v4 v5 v7 v8 v34 v35 v1_0 v1_1 v1_2 k (fun v2 => K .ret (f76s21 v2))) (by kernel_rfl) (f76t33 N (K := seqK (fun σ => f76i N (f76c 3766679) .n σ (joinK (some f76l8) K)) (joinK (some f76l8) K)) ..) (fx10 fun v3 v4 v5 v7 v8 v34 v35 v1_0 v1_1 v1_2 => f76t54 N v3 v4 v5 v7 v8 v34 v35 v1_0 v1_1 v1_2 K) (by kernel_rfl)
noncomputable def f76p30 : Plan := .mk (some f76l8) none .n f76p32
theorem f76t30 N v3 v4 v5 v7 v8 v34 v35 v1_0 v1_1 v1_2 (K : KT ρ) : f76i N (f76c 620951) f76p30 (f76s8 v3 v4 v5 v7 v8 v34 v35 v1_0 v1_1 v1_2) (joinK (some f76l8) K) =
  impl_factors.Z30 N v3 v4 v5 v7 v8 v34 v35 v1_0 v1_1 v1_2 (fun v3 v4 v5 v7 v8 v34 v35 v1_0 v1_1 v1_2 => K .nrm (f76s8 v3 v4 v5 v7 v8 v34 v35 v1_0 v1_1 v1_2)) (fun v3 v4 v5 v7 v34 v35 v1_0 v1_1 v1_2 => K (.exit 2) (f76s7 v3 v4 v5 v7 v34 v35 v1_0 v1_1 v1_2)) (fun v2 => K .ret (f76s21 v2)) :=
 viaSeqS (fun k => impl_factors.Z31 N v3 v4 v5 v7 v8 v34 v35 v1_0 v1_1 v1_2 k (fun v3 v4 v5 v7 v34 v35 v1_0 v1_1 v1_2 => K (.exit 2) (f76s7 v3 v4 v5 v7 v34 v35 v1_0 v1_1 v1_2))) (by kernel_rfl) (f76t31 N (K := seqK (fun σ => f76i N (f76c 1669527) f76p32 σ (joinK (some f76l8) K)) (joinK (some f76l8) K)) ..) (fx10 fun v3 v4 v5 v7 v8 v34 v35 v1_0 v1_1 v1_2 => f76t32 N v3 v4 v5 v7 v8 v34 v35 v1_0 v1_1 v1_2 K) (by kernel_rfl)
noncomputable def f76p29 : Plan := .mk none (some f76l8) f76p30 .n
noncomputable abbrev f76w29 {ρ : Type} (N M : Nat) (σ : St) (K : KT ρ) : Option ρ := loopC (fun σ K => f76i N (f76c 620951) f76p30 σ K) f76l8 M σ K
theorem f76t29L {ρ : Type} (N : Nat) (K : KT ρ) : ∀ (M : Nat) (v3 v4 v5 v7 : LI) (v8 v34 v35 v1_0 v1_1 : Int) (v1_2 : LI), f76w29 N M (f76s8 v3 v4 v5 v7 v8 v34 v35 v1_0 v1_1 v1_2) K =
  impl_factors.Z29L N (fun v3 v4 v5 v7 v34 v35 v1_0 v1_1 v1_2 => K (.exit 2) (f76s7 v3 v4 v5 v7 v34 v35 v1_0 v1_1 v1_2)) (fun v2 => K .ret (f76s21 v2)) M v3 v4 v5 v7 v8 v34 v35 v1_0 v1_1 v1_2
  | 0, _, _, _, _, _, _, _, _, _, _ => rfl
  | M + 1, v3, v4, v5, v7, v8, v34, v35, v1_0, v1_1, v1_2 => viaRoundS (fun k => impl_factors.Z30 N v3 v4 v5 v7 v8 v34 v35 v1_0 v1_1 v1_2 k (fun v3 v4 v5 v7 v34 v35 v1_0 v1_1 v1_2 => K (.exit 2) (f76s7 v3 v4 v5 v7 v34 v35 v1_0 v1_1 v1_2)) (fun v2 => K .ret (f76s21 v2))) (f76t30 N (K := seqK (fun σ => f76w29 N M σ K) K) ..) (fx10 fun v3 v4 v5 v7 v8 v34 v35 v1_0 v1_1 v1_2 => f76t29L N K M v3 v4 v5 v7 v8 v34 v35 v1_0 v1_1 v1_2) (by kernel_rfl)
theorem f76t29 N v3 v4 v5 v7 v8 v34 v35 v1_0 v1_1 v1_2 (K : KT ρ) : f76i N (f76c 358807) f76p29 (f76s8 v3 v4 v5 v7 v8 v34 v35 v1_0 v1_1 v1_2) (joinK (some f76l7) K) =
  impl_factors.Z29 N v3 v4 v5 v7 v8 v34 v35 v1_0 v1_1 v1_2 (fun v3 v4 v5 v7 v34 v35 v1_0 v1_1 v1_2 => K (.exit 2) (f76s7 v3 v4 v5 v7 v34 v35 v1_0 v1_1 v1_2)) (fun v2 => K .ret (f76s21 v2)) :=
 viaLoopS (by kernel_rfl) (f76t29L N (joinK (some f76l7) K) N v3 v4 v5 v7 v8 v34 v35 v1_0 v1_1 v1_2) (by kernel_rfl)
noncomputable def f76p28 : Plan := .mk (some f76l7) none f76p29 .n
theorem f76t28 N v3 v4 v5 v7 v8 v34 v35 v1_0 v1_1 v1_2 (K : KT ρ) : f76i N (f76c 227735) f76p28 (f76s8 v3 v4 v5 v7 v8 v34 v35 v1_0 v1_1 v1_2) (joinK (some f76l7) K) =
  impl_factors.Z28 N v3 v4 v5 v7 v8 v34 v35 v1_0 v1_1 v1_2 (fun v3 v4 v5 v7 v34 v35 v1_0 v1_1 v1_2 => K .nrm (f76s7 v3 v4 v5 v7 v34 v35 v1_0 v1_1 v1_2)) (fun v2 => K .ret (f76s21 v2)) :=
 viaBlockS (by kernel_rfl) (f76t29 N (K := blockK 2 (joinK (some f76l7) K)) ..) (by kernel_rfl)
noncomputable def f76p26 : Plan := .mk (some f76l8) none .n f76p28
theorem f76t26 N v3 v4 v5 v7 v34 v35 v1_0 v1_1 v1_2 (K : KT ρ) : f76i N (f76c 96663) f76p26 (f76s7 v3 v4 v5 v7 v34 v35 v1_0 v1_1 v1_2) (joinK (some f76l7) K) =
  impl_factors.Z26 N v3 v4 v5 v7 v34 v35 v1_0 v1_1 v1_2 (fun v3 v4 v5 v7 v34 v35 v1_0 v1_1 v1_2 => K .nrm (f76s7 v3 v4 v5 v7 v34 v35 v1_0 v1_1 v1_2)) (fun v2 => K .ret (f76s21 v2)) :=
 viaSeqS (fun k => impl_factors.Z27 N v3 v4 v5 v7 v34 v35 v1_0 v1_1 v1_2 k) (by kernel_rfl) (f76t27 N (K := seqK (fun σ => f76i N (f76c 227735) f76p28 σ (joinK (some f76l7) K)) (joinK (some f76l7) K)) ..) (fx10 fun v3 v4 v5 v7 v8 v34 v35 v1_0 v1_1 v1_2 => f76t28 N v3 v4 v5 v7 v8 v34 v35 v1_0 v1_1 v1_2 K) (by kernel_rfl)
theorem f76t56 N v3 v4 v5 v7 v34 v35 v1_0 v1_1 v1_2 (K : KT ρ) : f76i N (f76c 194967) .n (f76s7 v3 v4 v5 v7 v34 v35 v1_0 v1_1 v1_2) (joinK (some f76l14) K) =
  impl_factors.Z56 N v3 v4 v5 v7 v34 v35 v1_0 v1_1 v1_2 (fun v3 v4 v5 v7 v16 v34 v35 v1_0 v1_1 v1_2 => K .nrm (f76s14 v3 v4 v5 v7 v16 v34 v35 v1_0 v1_1 v1_2)) := by kernel_rfl
theorem f76t59 N v3 v4 v5 v7 v16 v34 v35 v1_0 v1_1 v1_2 (K : KT ρ) : f76i N (f76c 653719) .n (f76s14 v3 v4 v5 v7 v16 v34 v35 v1_0 v1_1 v1_2) (joinK (some f76l15) K) =
  impl_factors.Z59 N v3 v4 v5 v7 v16 v34 v35 v1_0 v1_1 v1_2 (fun v3 v4 v5 v7 v16 v34 v35 v159 v160 v1_0 v1_1 v1_2 => K .nrm (f76s15 v3 v4 v5 v7 v16 v34 v35 v159 v160 v1_0 v1_1 v1_2)) := by kernel_rfl
theorem f76t62 N v3 v4 v5 v7 v16 v34 v35 v159 v160 v1_0 v1_1 v1_2 (K : KT ρ) : f76i N (f76c 2488727) .n (f76s15 v3 v4 v5 v7 v16 v34 v35 v159 v160 v1_0 v1_1 v1_2) (joinK (some f76l15) K) =
  impl_factors.Z62 N v3 v4 v5 v7 v16 v34 v35 v159 v160 v1_0 v1_1 v1_2 (fun v3 v4 v5 v7 v16 v34 v35 v159 v160 v1_0 v1_1 v1_2 => K .nrm (f76s15 v3 v4 v5 v7 v16 v34 v35 v159 v160 v1_0 v1_1 v1_2)) (fun v3 v4 v5 v7 v16 v34 v35 v1_0 v1_1 v1_2 => K (.exit 6) (f76s14 v3 v4 v5 v7 v16 v34 v35 v1_0 v1_1 v1_2)) := by kernel_rfl
noncomputable def f76p61 : Plan := .mk none (some f76l15) .n .n
noncomputable abbrev f76w61 {ρ : Type} (N M : Nat) (σ : St) (K : KT ρ) : Option ρ := loopC (fun σ K => f76i N (f76c 2488727) .n σ K) f76l15 M σ K
theorem f76t61L {ρ : Type} (N : Nat) (K : KT ρ) : ∀ (M : Nat) (v3 v4 v5 v7 : LI) (v16 v34 v35 v159 v160 v1_0 v1_1 : Int) (v1_2 : LI), f76w61 N M (f76s15 v3 v4 v5 v7 v16 v34 v35 v159 v160 v1_0 v1_1 v1_2) K =
  impl_factors.Z61L N (fun v3 v4 v5 v7 v16 v34 v35 v1_0 v1_1 v1_2 => K (.exit 6) (f76s14 v3 v4 v5 v7 v16 v34 v35 v1_0 v1_1 v1_2)) M v3 v4 v5 v7 v16 v34 v35 v159 v160 v1_0 v1_1 v1_2
  | 0, _, _, _, _, _, _, _, _, _, _, _, _ => rfl
  | M + 1, v3, v4, v5, v7, v16, v34, v35, v159, v160, v1_0, v1_1, v1_2 => viaRoundS (fun k => impl_factors.Z62 N v3 v4 v5 v7 v16 v34 v35 v159 v160 v1_0 v1_1 v1_2 k (fun v3 v4 v5 v7 v16 v34 v35 v1_0 v1_1 v1_2 => K (.exit 6) (f76s14 v3 v4 v5 v7 v16 v34 v35 v1_0 v1_1 v1_2))) (f76t62 N (K := seqK (fun σ => f76w61 N M σ K) K) ..) (fx12 fun v3 v4 v5 v7 v16 v34 v35 v159 v160 v1_0 v1_1 v1_2 => f76t61L N K M v3 v4 v5 v7 v16 v34 v35 v159 v160 v1_0 v1_1 v1_2) (by kernel_rfl)
theorem f76t61 N v3 v4 v5 v7 v16 v34 v35 v159 v160 v1_0 v1_1 v1_2 (K : KT ρ) : f76i N (f76c 1440151) f76p61 (f76s15 v3 v4 v5 v7 v16 v34 v35 v159 v160 v1_0 v1_1 v1_2) (joinK (some f76l14) K) =
  impl_factors.Z61 N v3 v4 v5 v7 v16 v34 v35 v159 v160 v1_0 v1_1 v1_2 (fun v3 v4 v5 v7 v16 v34 v35 v1_0 v1_1 v1_2 => K (.exit 6) (f76s14 v3 v4 v5 v7 v16 v34 v35 v1_0 v1_1 v1_2)) :=
 viaLoopS (by kernel_rfl) (f76t61L N (joinK (some f76l14) K) N v3 v4 v5 v7 v16 v34 v35 v159 v160 v1_0 v1_1 v1_2) (by kernel_rfl)
noncomputable def f76p60 : Plan := .mk (some f76l14) none f76p61 .n
theorem f76t60 N v3 v4 v5 v7 v16 v34 v35 v159 v160 v1_0 v1_1 v1_2 (K : KT ρ) : f76i N (f76c 915863) f76p60 (f76s15 v3 v4 v5 v7 v16 v34 v35 v159 v160 v1_0 v1_1 v1_2) (joinK (some f76l14) K) =
  impl_factors.Z60 N v3 v4 v5 v7 v16 v34 v35 v159 v160 v1_0 v1_1 v1_2 (fun v3 v4 v5 v7 v16 v34 v35 v1_0 v1_1 v1_2 => K .nrm (f76s14 v3 v4 v5 v7 v16 v34 v35 v1_0 v1_1 v1_2)) :=
 viaBlockS (by kernel_rfl) (f76t61 N (K := blockK 6 (joinK (some f76l14) K)) ..) (by kernel_rfl)
noncomputable def f76p58 : Plan := .mk (some f76l15) none .n f76p60
theorem f76t58 N v3 v4 v5 v7 v16 v34 v35 v1_0 v1_1 v1_2 (K : KT ρ) : f76i N (f76c 391575) f76p58 (f76s14 v3 v4 v5 v7 v16 v34 v35 v1_0 v1_1 v1_2) (joinK (some f76l14) K) =
  impl_factors.Z58 N v3 v4 v5 v7 v16 v34 v35 v1_0 v1_1 v1_2 (fun v3 v4 v5 v7 v16 v34 v35 v1_0 v1_1 v1_2 => K .nrm (f76s14 v3 v4 v5 v7 v16 v34 v35 v1_0 v1_1 v1_2)) :=
 viaSeqS (fun k => impl_factors.Z59 N v3 v4 v5 v7 v16 v34 v35 v1_0 v1_1 v1_2 k) (by kernel_rfl) (f76t59 N (K := seqK (fun σ => f76i N (f76c 915863) f76p60 σ (joinK (some f76l14) K)) (joinK (some f76l14) K)) ..) (fx12 fun v3 v4 v5 v7 v16 v34 v35 v159 v160 v1_0 v1_1 v1_2 => f76t60 N v3 v4 v5 v7 v16 v34 v35 v159 v160 v1_0 v1_1 v1_2 K) (by kernel_rfl)
theorem f76t64 N v3 v4 v5 v7 v16 v34 v35 v1_0 v1_1 v1_2 (K : KT ρ) : f76i N (f76c 784791) .n (f76s14 v3 v4 v5 v7 v16 v34 v35 v1_0 v1_1 v1_2) (joinK (some f76l16) K) =
  impl_factors.Z64 N v3 v4 v5 v7 v16 v34 v35 v1_0 v1_1 v1_2 (fun v3 v4 v5 v7 v16 v19 v34 v35 v1_0 v1_1 v1_2 => K .nrm (f76s16 v3 v4 v5 v7 v16 v19 v34 v35 v1_0 v1_1 v1_2)) := by kernel_rfl
theorem f76t67 N v3 v4 v5 v7 v16 v19 v34 v35 v1_0 v1_1 v1_2 (K : KT ρ) : f76i N (f76c 2619799) .n (f76s16 v3 v4 v5 v7 v16 v19 v34 v35 v1_0 v1_1 v1_2) (joinK (some f76l17) K) =
  impl_factors.Z67 N v3 v4 v5 v7 v16 v19 v34 v35 v1_0 v1_1 v1_2 (fun v3 v4 v5 v7 v16 v19 v34 v35 v179 v180 v1_0 v1_1 v1_2 => K .nrm (f76s17 v3 v4 v5 v7 v16 v19 v34 v35 v179 v180 v1_0 v1_1 v1_2)) := by kernel_rfl
theorem f76t70 N v3 v4 v5 v7 v16 v19 v34 v35 v179 v180 v1_0 v1_1 v1_2 (K : KT ρ) : f76i N (f76c 9959831) .n (f76s17 v3 v4 v5 v7 v16 v19 v34 v35 v179 v180 v1_0 v1_1 v1_2) (joinK (some f76l17) K) =
  impl_factors.Z70 N v3 v4 v5 v7 v16 v19 v34 v35 v179 v180 v1_0 v1_1 v1_2 (fun v3 v4 v5 v7 v16 v19 v34 v35 v179 v180 v1_0 v1_1 v1_2 => K .nrm (f76s17 v3 v4 v5 v7 v16 v19 v34 v35 v179 v180 v1_0 v1_1 v1_2)) (fun v3 v4 v5 v7 v19 v34 v35 v1_0 v1_1 v1_2 => K (.exit 8) (f76s18 v3 v4 v5 v7 v19 v34 v35 v1_0 v1_1 v1_2)) := by kernel_rfl
noncomputable def f76p69 : Plan := .mk none (some f76l17) .n .n
noncomputable abbrev f76w69 {ρ : Type} (N M : Nat) (σ : St) (K : KT ρ) : Option ρ := loopC (fun σ K => f76i N (f76c 9959831) .n σ K) f76l17 M σ K
theorem f76t69L {ρ : Type} (N : Nat) (K : KT ρ) : ∀ (M : Nat) (v3 v4 v5 v7 : LI) (v16 v19 v34 v35 v179 v180 v1_0 v1_1 : Int) (v1_2 : LI), f76w69 N M (f76s17 v3 v4 v5 v7 v16 v19 v34 v35 v179 v180 v1_0 v1_1 v1_2) K =
  impl_factors.Z69L N (fun v3 v4 v5 v7 v19 v34 v35 v1_0 v1_1 v1_2 => K (.exit 8) (f76s18 v3 v4 v5 v7 v19 v34 v35 v1_0 v1_1 v1_2)) M v3 v4 v5 v7 v16 v19 v34 v35 v179 v180 v1_0 v1_1 v1_2
  | 0, _, _, _, _, _, _, _, _, _, _, _, _, _ => rfl
  | M + 1, v3, v4, v5, v7, v16, v19, v34, v35, v179, v180, v1_0, v1_1, v1_2 => viaRoundS (fun k => impl_factors.Z70 N v3 v4 v5 v7 v16 v19 v34 v35 v179 v180 v1_0 v1_1 v1_2 k (fun v3 v4 v5 v7 v19 v34 v35 v1_0 v1_1 v1_2 => K (.exit 8) (f76s18 v3 v4 v5 v7 v19 v34 v35 v1_0 v1_1 v1_2))) (f76t70 N (K := seqK (fun σ => f76w69 N M σ K) K) ..) (fx13 fun v3 v4 v5 v7 v16 v19 v34 v35 v179 v180 v1_0 v1_1 v1_2 => f76t69L N K M v3 v4 v5 v7 v16 v19 v34 v35 v179 v180 v1_0 v1_1 v1_2) (by kernel_rfl)
theorem f76t69 N v3 v4 v5 v7 v16 v19 v34 v35 v179 v180 v1_0 v1_1 v1_2 (K : KT ρ) : f76i N (f76c 5765527) f76p69 (f76s17 v3 v4 v5 v7 v16 v19 v34 v35 v179 v180 v1_0 v1_1 v1_2) (joinK (some f76l18) K) =
  impl_factors.Z69 N v3 v4 v5 v7 v16 v19 v34 v35 v179 v180 v1_0 v1_1 v1_2 (fun v3 v4 v5 v7 v19 v34 v35 v1_0 v1_1 v1_2 => K (.exit 8) (f76s18 v3 v4 v5 v7 v19 v34 v35 v1_0 v1_1 v1_2)) :=
 viaLoopS (by kernel_rfl) (f76t69L N (joinK (some f76l18) K) N v3 v4 v5 v7 v16 v19 v34 v35 v179 v180 v1_0 v1_1 v1_2) (by kernel_rfl)
noncomputable def f76p68 : Plan := .mk (some f76l18) none f76p69 .n
theorem f76t68 N v3 v4 v5 v7 v16 v19 v34 v35 v179 v180 v1_0 v1_1 v1_2 (K : KT ρ) : f76i N (f76c 3668375) f76p68 (f76s17 v3 v4 v5 v7 v16 v19 v34 v35 v179 v180 v1_0 v1_1 v1_2) (joinK (some f76l18) K) =
  impl_factors.Z68 N v3 v4 v5 v7 v16 v19 v34 v35 v179 v180 v1_0 v1_1 v1_2 (fun v3 v4 v5 v7 v19 v34 v35 v1_0 v1_1 v1_2 => K .nrm (f76s18 v3 v4 v5 v7 v19 v34 v35 v1_0 v1_1 v1_2)) :=
 viaBlockS (by kernel_rfl) (f76t69 N (K := blockK 8 (joinK (some f76l18) K)) ..) (by kernel_rfl)
noncomputable def f76p66 : Plan := .mk (some f76l17) none .n f76p68
theorem f76t66 N v3 v4 v5 v7 v16 v19 v34 v35 v1_0 v1_1 v1_2 (K : KT ρ) : f76i N (f76c 1571223) f76p66 (f76s16 v3 v4 v5 v7 v16 v19 v34 v35 v1_0 v1_1 v1_2) (joinK (some f76l18) K) =
  impl_factors.Z66 N v3 v4 v5 v7 v16 v19 v34 v35 v1_0 v1_1 v1_2 (fun v3 v4 v5 v7 v19 v34 v35 v1_0 v1_1 v1_2 => K .nrm (f76s18 v3 v4 v5 v7 v19 v34 v35 v1_0 v1_1 v1_2)) :=
 viaSeqS (fun k => impl_factors.Z67 N v3 v4 v5 v7 v16 v19 v34 v35 v1_0 v1_1 v1_2 k) (by kernel_rfl) (f76t67 N (K := seqK (fun σ => f76i N (f76c 3668375) f76p68 σ (joinK (some f76l18) K)) (joinK (some f76l18) K)) ..) (fx13 fun v3 v4 v5 v7 v16 v19 v34 v35 v179 v180 v1_0 v1_1 v1_2 => f76t68 N v3 v4 v5 v7 v16 v19 v34 v35 v179 v180 v1_0 v1_1 v1_2 K) (by kernel_rfl)
theorem f76t72 N v3 v4 v5 v7 v19 v34 v35 v1_0 v1_1 v1_2 (K : KT ρ) : f76i N (f76c 3144087) .n (f76s18 v3 v4 v5 v7 v19 v34 v35 v1_0 v1_1 v1_2) (joinK (some f76l19) K) =
  impl_factors.Z72 N v3 v4 v5 v7 v19 v34 v35 v1_0 v1_1 v1_2 (fun v3 v4 v5 v205 v19 v34 v35 v206 v207 v1_0 v1_1 v1_2 => K .nrm (f76s19 v3 v4 v5 v205 v19 v34 v35 v206 v207 v1_0 v1_1 v1_2)) := by kernel_rfl
theorem f76t75 N v3 v4 v5 v205 v19 v34 v35 v206 v207 v1_0 v1_1 v1_2 (K : KT ρ) : f76i N (f76c 10484119) .n (f76s19 v3 v4 v5 v205 v19 v34 v35 v206 v207 v1_0 v1_1 v1_2) (joinK (some f76l19) K) =
  impl_factors.Z75 N v3 v4 v5 v205 v19 v34 v35 v206 v207 v1_0 v1_1 v1_2 (fun v3 v4 v5 v205 v19 v34 v35 v206 v207 v1_0 v1_1 v1_2 => K .nrm (f76s19 v3 v4 v5 v205 v19 v34 v35 v206 v207 v1_0 v1_1 v1_2)) (fun v3 v4 v5 v34 v35 v1_0 v1_1 v1_2 => K (.exit 10) (f76s4 v3 v4 v5 v34 v35 v1_0 v1_1 v1_2)) := by kernel_rfl
noncomputable def f76p74 : Plan := .mk none (some f76l19) .n .n
noncomputable abbrev f76w74 {ρ : Type} (N M : Nat) (σ : St) (K : KT ρ) : Option ρ := loopC (fun σ K => f76i N (f76c 10484119) .n σ K) f76l19 M σ K
theorem f76t74L {ρ : Type} (N : Nat) (K : KT ρ) : ∀ (M : Nat) (v3 v4 v5 v205 : LI) (v19 v34 v35 v206 v207 v1_0 v1_1 : Int) (v1_2 : LI), f76w74 N M (f76s19 v3 v4 v5 v205 v19 v34 v35 v206 v207 v1_0 v1_1 v1_2) K =
  impl_factors.Z74L N (fun v3 v4 v5 v34 v35 v1_0 v1_1 v1_2 => K (.exit 10) (f76s4 v3 v4 v5 v34 v35 v1_0 v1_1 v1_2)) M v3 v4 v5 v205 v19 v34 v35 v206 v207 v1_0 v1_1 v1_2
  | 0, _, _, _, _, _, _, _, _, _, _, _, _ => rfl
  | M + 1, v3, v4, v5, v205, v19, v34, v35, v206, v207, v1_0, v1_1, v1_2 => viaRoundS (fun k => impl_factors.Z75 N v3 v4 v5 v205 v19 v34 v35 v206 v207 v1_0 v1_1 v1_2 k (fun v3 v4 v5 v34 v35 v1_0 v1_1 v1_2 => K (.exit 10) (f76s4 v3 v4 v5 v34 v35 v1_0 v1_1 v1_2))) (f76t75 N (K := seqK (fun σ => f76w74 N M σ K) K) ..) (fx12 fun v3 v4 v5 v205 v19 v34 v35 v206 v207 v1_0 v1_1 v1_2 => f76t74L N K M v3 v4 v5 v205 v19 v34 v35 v206 v207 v1_0 v1_1 v1_2) (by kernel_rfl)
theorem f76t74 N v3 v4 v5 v205 v19 v34 v35 v206 v207 v1_0 v1_1 v1_2 (K : KT ρ) : f76i N (f76c 6289815) f76p74 (f76s19 v3 v4 v5 v205 v19 v34 v35 v206 v207 v1_0 v1_1 v1_2) (joinK (some f76l4) K) =
  impl_factors.Z74 N v3 v4 v5 v205 v19 v34 v35 v206 v207 v1_0 v1_1 v1_2 (fun v3 v4 v5 v34 v35 v1_0 v1_1 v1_2 => K (.exit 10) (f76s4 v3 v4 v5 v34 v35 v1_0 v1_1 v1_2)) :=
 viaLoopS (by kernel_rfl) (f76t74L N (joinK (some f76l4) K) N v3 v4 v5 v205 v19 v34 v35 v206 v207 v1_0 v1_1 v1_2) (by kernel_rfl)
noncomputable def f76p73 : Plan := .mk (some f76l4) none f76p74 .n
theorem f76t73 N v3 v4 v5 v205 v19 v34 v35 v206 v207 v1_0 v1_1 v1_2 (K : KT ρ) : f76i N (f76c 4192663) f76p73 (f76s19 v3 v4 v5 v205 v19 v34 v35 v206 v207 v1_0 v1_1 v1_2) (joinK (some f76l4) K) =
  impl_factors.Z73 N v3 v4 v5 v205 v19 v34 v35 v206 v207 v1_0 v1_1 v1_2 (fun v3 v4 v5 v34 v35 v1_0 v1_1 v1_2 => K .nrm (f76s4 v3 v4 v5 v34 v35 v1_0 v1_1 v1_2)) :=
 viaBlockS (by kernel_rfl) (f76t74 N (K := blockK 10 (joinK (some f76l4) K)) ..) (by kernel_rfl)
noncomputable def f76p71 : Plan := .mk (some f76l19) none .n f76p73
theorem f76t71 N v3 v4 v5 v7 v19 v34 v35 v1_0 v1_1 v1_2 (K : KT ρ) : f76i N (f76c 2095511) f76p71 (f76s18 v3 v4 v5 v7 v19 v34 v35 v1_0 v1_1 v1_2) (joinK (some f76l4) K) =
  impl_factors.Z71 N v3 v4 v5 v7 v19 v34 v35 v1_0 v1_1 v1_2 (fun v3 v4 v5 v34 v35 v1_0 v1_1 v1_2 => K .nrm (f76s4 v3 v4 v5 v34 v35 v1_0 v1_1 v1_2)) :=
 viaSeqS (fun k => impl_factors.Z72 N v3 v4 v5 v7 v19 v34 v35 v1_0 v1_1 v1_2 k) (by kernel_rfl) (f76t72 N (K := seqK (fun σ => f76i N (f76c 4192663) f76p73 σ (joinK (some f76l4) K)) (joinK (some f76l4) K)) ..) (fx12 fun v3 v4 v5 v205 v19 v34 v35 v206 v207 v1_0 v1_1 v1_2 => f76t73 N v3 v4 v5 v205 v19 v34 v35 v206 v207 v1_0 v1_1 v1_2 K) (by kernel_rfl)
noncomputable def f76p65 : Plan := .mk (some f76l18) none f76p66 f76p71
theorem f76t65 N v3 v4 v5 v7 v16 v19 v34 v35 v1_0 v1_1 v1_2 (K : KT ρ) : f76i N (f76c 1046935) f76p65 (f76s16 v3 v4 v5 v7 v16 v19 v34 v35 v1_0 v1_1 v1_2) (joinK (some f76l4) K) =
  impl_factors.Z65 N v3 v4 v5 v7 v16 v19 v34 v35 v1_0 v1_1 v1_2 (fun v3 v4 v5 v34 v35 v1_0 v1_1 v1_2 => K .nrm (f76s4 v3 v4 v5 v34 v35 v1_0 v1_1 v1_2)) :=
 viaSeqS (fun k => impl_factors.Z66 N v3 v4 v5 v7 v16 v19 v34 v35 v1_0 v1_1 v1_2 k) (by kernel_rfl) (f76t66 N (K := seqK (fun σ => f76i N (f76c 2095511) f76p71 σ (joinK (some f76l4) K)) (joinK (some f76l4) K)) ..) (fx10 fun v3 v4 v5 v7 v19 v34 v35 v1_0 v1_1 v1_2 => f76t71 N v3 v4 v5 v7 v19 v34 v35 v1_0 v1_1 v1_2 K) (by kernel_rfl)
noncomputable def f76p63 : Plan := .mk (some f76l16) none .n f76p65
theorem f76t63 N v3 v4 v5 v7 v16 v34 v35 v1_0 v1_1 v1_2 (K : KT ρ) : f76i N (f76c 522647) f76p63 (f76s14 v3 v4 v5 v7 v16 v34 v35 v1_0 v1_1 v1_2) (joinK (some f76l4) K) =
  impl_factors.Z63 N v3 v4 v5 v7 v16 v34 v35 v1_0 v1_1 v1_2 (fun v3 v4 v5 v34 v35 v1_0 v1_1 v1_2 => K .nrm (f76s4 v3 v4 v5 v34 v35 v1_0 v1_1 v1_2)) :=
 viaSeqS (fun k => impl_factors.Z64 N v3 v4 v5 v7 v16 v34 v35 v1_0 v1_1 v1_2 k) (by kernel_rfl) (f76t64 N (K := seqK (fun σ => f76i N (f76c 1046935) f76p65 σ (joinK (some f76l4) K)) (joinK (some f76l4) K)) ..) (fx11 fun v3 v4 v5 v7 v16 v19 v34 v35 v1_0 v1_1 v1_2 => f76t65 N v3 v4 v5 v7 v16 v19 v34 v35 v1_0 v1_1 v1_2 K) (by kernel_rfl)
noncomputable def f76p57 : Plan := .mk (some f76l14) none f76p58 f76p63
theorem f76t57 N v3 v4 v5 v7 v16 v34 v35 v1_0 v1_1 v1_2 (K : KT ρ) : f76i N (f76c 260503) f76p57 (f76s14 v3 v4 v5 v7 v16 v34 v35 v1_0 v1_1 v1_2) (joinK (some f76l4) K) =
  impl_factors.Z57 N v3 v4 v5 v7 v16 v34 v35 v1_0 v1_1 v1_2 (fun v3 v4 v5 v34 v35 v1_0 v1_1 v1_2 => K .nrm (f76s4 v3 v4 v5 v34 v35 v1_0 v1_1 v1_2)) :=
 viaSeqS (fun k => impl_factors.Z58 N v3 v4 v5 v7 v16 v34 v35 v1_0 v1_1 v1_2 k) (by kernel_rfl) (f76t58 N (K := seqK (fun σ => f76i N (f76c 522647) f76p63 σ (joinK (some f76l4) K)) (joinK (some f76l4) K)) ..) (fx10 fun v3 v4 v5 v7 v16 v34 v35 v1_0 v1_1 v1_2 => f76t63 N v3 v4 v5 v7 v16 v34 v35 v1_0 v1_1 v1_2 K) (by kernel_rfl)
noncomputable def f76p55 : Plan := .mk (some f76l14) none .n f76p57
theorem f76t55 N v3 v4 v5 v7 v34 v35 v1_0 v1_1 v1_2 (K : KT ρ) : f76i N (f76c 129431) f76p55 (f76s7 v3 v4 v5 v7 v34 v35 v1_0 v1_1 v1_2) (joinK (some f76l4) K) =
  impl_factors.Z55 N v3 v4 v5 v7 v34 v35 v1_0 v1_1 v1_2 (fun v3 v4 v5 v34 v35 v1_0 v1_1 v1_2 => K .nrm (f76s4 v3 v4 v5 v34 v35 v1_0 v1_1 v1_2)) :=
 viaSeqS (fun k => impl_factors.Z56 N v3 v4 v5 v7 v34 v35 v1_0 v1_1 v1_2 k) (by kernel_rfl) (f76t56 N (K := seqK (fun σ => f76i N (f76c 260503) f76p57 σ (joinK (some f76l4) K)) (joinK (some f76l4) K)) ..) (fx10 fun v3 v4 v5 v7 v16 v34 v35 v1_0 v1_1 v1_2 => f76t57 N v3 v4 v5 v7 v16 v34 v35 v1_0 v1_1 v1_2 K) (by kernel_rfl)
noncomputable def f76p25 : Plan := .mk (some f76l7) none f76p26 f76p55
theorem f76t25 N v3 v4 v5 v7 v34 v35 v1_0 v1_1 v1_2 (K : KT ρ) : f76i N (f76c 63895) f76p25 (f76s7 v3 v4 v5 v7 v34 v35 v1_0 v1_1 v1_2) (joinK (some f76l4) K) =
  impl_factors.Z25 N v3 v4 v5 v7 v34 v35 v1_0 v1_1 v1_2 (fun v3 v4 v5 v34 v35 v1_0 v1_1 v1_2 => K .nrm (f76s4 v3 v4 v5 v34 v35 v1_0 v1_1 v1_2)) (fun v2 => K .ret (f76s21 v2)) :=
 viaSeqS (fun k => impl_factors.Z26 N v3 v4 v5 v7 v34 v35 v1_0 v1_1 v1_2 k (fun v2 => K .ret (f76s21 v2))) (by kernel_rfl) (f76t26 N (K := seqK (fun σ => f76i N (f76c 129431) f76p55 σ (joinK (some f76l4) K)) (joinK (some f76l4) K)) ..) (fx9 fun v3 v4 v5 v7 v34 v35 v1_0 v1_1 v1_2 => f76t55 N v3 v4 v5 v7 v34 v35 v1_0 v1_1 v1_2 K) (by kernel_rfl)
noncomputable def f76p23 : Plan := .mk (some f76l7) none .n f76p25
theorem f76t23 N v3 v4 v5 v6 v34 v35 v1_0 v1_1 v1_2 (K : KT ρ) : f76i N (f76c 31127) f76p23 (f76s6 v3 v4 v5 v6 v34 v35 v1_0 v1_1 v1_2) (joinK (some f76l4) K) =
  impl_factors.Z23 N v3 v4 v5 v6 v34 v35 v1_0 v1_1 v1_2 (fun v3 v4 v5 v34 v35 v1_0 v1_1 v1_2 => K .nrm (f76s4 v3 v4 v5 v34 v35 v1_0 v1_1 v1_2)) (fun v2 => K .ret (f76s21 v2)) :=
 viaSeqS (fun k => impl_factors.Z24 N v3 v4 v5 v6 v34 v35 v1_0 v1_1 v1_2 k) (by kernel_rfl) (f76t24 N (K := seqK (fun σ => f76i N (f76c 63895) f76p25 σ (joinK (some f76l4) K)) (joinK (some f76l4) K)) ..) (fx9 fun v3 v4 v5 v7 v34 v35 v1_0 v1_1 v1_2 => f76t25 N v3 v4 v5 v7 v34 v35 v1_0 v1_1 v1_2 K) (by kernel_rfl)
noncomputable def f76p21 : Plan := .mk (some f76l6) none .n f76p23
theorem f76t21 N v3 v4 v5 v6 v34 v35 v1_0 v1_1 v1_2 (K : KT ρ) : f76i N (f76c 14743) f76p21 (f76s6 v3 v4 v5 v6 v34 v35 v1_0 v1_1 v1_2) (joinK (some f76l4) K) =
  impl_factors.Z21 N v3 v4 v5 v6 v34 v35 v1_0 v1_1 v1_2 (fun v3 v4 v5 v34 v35 v1_0 v1_1 v1_2 => K .nrm (f76s4 v3 v4 v5 v34 v35 v1_0 v1_1 v1_2)) (fun v2 => K .ret (f76s21 v2)) :=
 viaSeqS (fun k => impl_factors.Z22 N v3 v4 v5 v6 v34 v35 v1_0 v1_1 v1_2 k) (by kernel_rfl) (f76t22 N (K := seqK (fun σ => f76i N (f76c 31127) f76p23 σ (joinK (some f76l4) K)) (joinK (some f76l4) K)) ..) (fx9 fun v3 v4 v5 v6 v34 v35 v1_0 v1_1 v1_2 => f76t23 N v3 v4 v5 v6 v34 v35 v1_0 v1_1 v1_2 K) (by kernel_rfl)
noncomputable def f76p19 : Plan := .mk (some f76l6) none .n f76p21
theorem f76t19 N v3 v4 v5 v6 v34 v35 v1_0 v1_1 v1_2 (K : KT ρ) : f76i N (f76c 6551) f76p19 (f76s6 v3 v4 v5 v6 v34 v35 v1_0 v1_1 v1_2) (joinK (some f76l4) K) =
  impl_factors.Z19 N v3 v4 v5 v6 v34 v35 v1_0 v1_1 v1_2 (fun v3 v4 v5 v34 v35 v1_0 v1_1 v1_2 => K .nrm (f76s4 v3 v4 v5 v34 v35 v1_0 v1_1 v1_2)) (fun v3 v4 v5 v34 v35 v1_0 v1_1 v1_2 => K (.exit 1) (f76s4 v3 v4 v5 v34 v35 v1_0 v1_1 v1_2)) (fun v2 => K .ret (f76s21 v2)) :=
 viaSeqS (fun k => impl_factors.Z20 N v3 v4 v5 v6 v34 v35 v1_0 v1_1 v1_2 k (fun v3 v4 v5 v34 v35 v1_0 v1_1 v1_2 => K (.exit 1) (f76s4 v3 v4 v5 v34 v35 v1_0 v1_1 v1_2))) (by kernel_rfl) (f76t20 N (K := seqK (fun σ => f76i N (f76c 14743) f76p21 σ (joinK (some f76l4) K)) (joinK (some f76l4) K)) ..) (fx9 fun v3 v4 v5 v6 v34 v35 v1_0 v1_1 v1_2 => f76t21 N v3 v4 v5 v6 v34 v35 v1_0 v1_1 v1_2 K) (by kernel_rfl)
noncomputable def f76p17 : Plan := .mk (some f76l6) none .n f76p19
theorem f76t17 N v3 v4 v5 v34 v35 v1_0 v1_1 v1_2 (K : KT ρ) : f76i N (f76c 2455) f76p17 (f76s4 v3 v4 v5 v34 v35 v1_0 v1_1 v1_2) (joinK (some f76l4) K) =
  impl_factors.Z17 N v3 v4 v5 v34 v35 v1_0 v1_1 v1_2 (fun v3 v4 v5 v34 v35 v1_0 v1_1 v1_2 => K .nrm (f76s4 v3 v4 v5 v34 v35 v1_0 v1_1 v1_2)) (fun v3 v4 v5 v34 v35 v1_0 v1_1 v1_2 => K (.exit 1) (f76s4 v3 v4 v5 v34 v35 v1_0 v1_1 v1_2)) (fun v2 => K .ret (f76s21 v2)) :=
 viaSeqS (fun k => impl_factors.Z18 N v3 v4 v5 v34 v35 v1_0 v1_1 v1_2 k) (by kernel_rfl) (f76t18 N (K := seqK (fun σ => f76i N (f76c 6551) f76p19 σ (joinK (some f76l4) K)) (joinK (some f76l4) K)) ..) (fx9 fun v3 v4 v5 v6 v34 v35 v1_0 v1_1 v1_2 => f76t19 N v3 v4 v5 v6 v34 v35 v1_0 v1_1 v1_2 K) (by kernel_rfl)
noncomputable def f76p16 : Plan := .mk (some f76l4) none f76p17 .n
theorem f76t16 N v3 v4 v5 v34 v35 v1_0 v1_1 v1_2 (K : KT ρ) : f76i N (f76c 1431) f76p16 (f76s4 v3 v4 v5 v34 v35 v1_0 v1_1 v1_2) (joinK (some f76l4) K) =
  impl_factors.Z16 N v3 v4 v5 v34 v35 v1_0 v1_1 v1_2 (fun v3 v4 v5 v34 v35 v1_0 v1_1 v1_2 => K .nrm (f76s4 v3 v4 v5 v34 v35 v1_0 v1_1 v1_2)) (fun v2 => K .ret (f76s21 v2)) :=
 viaBlockS (by kernel_rfl) (f76t17 N (K := blockK 1 (joinK (some f76l4) K)) ..) (by kernel_rfl)
theorem f76t76 N v3 v4 v5 v34 v35 v1_0 v1_1 v1_2 (K : KT ρ) : f76i N (f76c 1943) .n (f76s4 v3 v4 v5 v34 v35 v1_0 v1_1 v1_2) (joinK (some f76l4) K) =
  impl_factors.Z76 N v3 v4 v5 v34 v35 v1_0 v1_1 v1_2 (fun v3 v4 v5 v34 v35 v1_0 v1_1 v1_2 => K .nrm (f76s4 v3 v4 v5 v34 v35 v1_0 v1_1 v1_2)) := by kernel_rfl
noncomputable def f76p15 : Plan := .mk (some f76l4) none f76p16 .n
theorem f76t15 N v3 v4 v5 v34 v35 v1_0 v1_1 v1_2 (K : KT ρ) : f76i N (f76c 919) f76p15 (f76s4 v3 v4 v5 v34 v35 v1_0 v1_1 v1_2) (joinK (some f76l4) K) =
  impl_factors.Z15 N v3 v4 v5 v34 v35 v1_0 v1_1 v1_2 (fun v3 v4 v5 v34 v35 v1_0 v1_1 v1_2 => K .nrm (f76s4 v3 v4 v5 v34 v35 v1_0 v1_1 v1_2)) (fun v2 => K .ret (f76s21 v2)) :=
 viaSeqS (fun k => impl_factors.Z16 N v3 v4 v5 v34 v35 v1_0 v1_1 v1_2 k (fun v2 => K .ret (f76s21 v2))) (by kernel_rfl) (f76t16 N (K := seqK (fun σ => f76i N (f76c 1943) .n σ (joinK (some f76l4) K)) (joinK (some f76l4) K)) ..) (fx8 fun v3 v4 v5 v34 v35 v1_0 v1_1 v1_2 => f76t76 N v3 v4 v5 v34 v35 v1_0 v1_1 v1_2 K) (by kernel_rfl)
noncomputable def f76p13 : Plan := .mk (some f76l4) none .n f76p15
theorem f76t13 N v3 v4 v5 v34 v35 v36 v1_0 v1_1 v1_2 (K : KT ρ) : f76i N (f76c 407) f76p13 (f76s5 v3 v4 v5 v34 v35 v36 v1_0 v1_1 v1_2) (joinK (some f76l4) K) =
  impl_factors.Z13 N v3 v4 v5 v34 v35 v36 v1_0 v1_1 v1_2 (fun v3 v4 v5 v34 v35 v1_0 v1_1 v1_2 => K .nrm (f76s4 v3 v4 v5 v34 v35 v1_0 v1_1 v1_2)) (fun v5 => K (.exit 0) (f76s20 v5)) (fun v2 => K .ret (f76s21 v2)) :=
 viaSeqS (fun k => impl_factors.Z14 N v3 v4 v5 v34 v35 v36 v1_0 v1_1 v1_2 k (fun v5 => K (.exit 0) (f76s20 v5))) (by kernel_rfl) (f76t14 N (K := seqK (fun σ => f76i N (f76c 919) f76p15 σ (joinK (some f76l4) K)) (joinK (some f76l4) K)) ..) (fx8 fun v3 v4 v5 v34 v35 v1_0 v1_1 v1_2 => f76t15 N v3 v4 v5 v34 v35 v1_0 v1_1 v1_2 K) (by kernel_rfl)
noncomputable def f76p11 : Plan := .mk (some f76l5) none .n f76p13
theorem f76t11 N v3 v4 v5 v34 v35 v1_0 v1_1 v1_2 (K : KT ρ) : f76i N (f76c 151) f76p11 (f76s4 v3 v4 v5 v34 v35 v1_0 v1_1 v1_2) (joinK (some f76l4) K) =
  impl_factors.Z11 N v3 v4 v5 v34 v35 v1_0 v1_1 v1_2 (fun v3 v4 v5 v34 v35 v1_0 v1_1 v1_2 => K .nrm (f76s4 v3 v4 v5 v34 v35 v1_0 v1_1 v1_2)) (fun v5 => K (.exit 0) (f76s20 v5)) (fun v2 => K .ret (f76s21 v2)) :=
 viaSeqS (fun k => impl_factors.Z12 N v3 v4 v5 v34 v35 v1_0 v1_1 v1_2 k) (by kernel_rfl) (f76t12 N (K := seqK (fun σ => f76i N (f76c 407) f76p13 σ (joinK (some f76l4) K)) (joinK (some f76l4) K)) ..) (fx9 fun v3 v4 v5 v34 v35 v36 v1_0 v1_1 v1_2 => f76t13 N v3 v4 v5 v34 v35 v36 v1_0 v1_1 v1_2 K) (by kernel_rfl)
noncomputable def f76p10 : Plan := .mk none (some f76l4) f76p11 .n
noncomputable abbrev f76w10 {ρ : Type} (N M : Nat) (σ : St) (K : KT ρ) : Option ρ := loopC (fun σ K => f76i N (f76c 151) f76p11 σ K) f76l4 M σ K
theorem f76t10L {ρ : Type} (N : Nat) (K : KT ρ) : ∀ (M : Nat) (v3 v4 v5 : LI) (v34 v35 v1_0 v1_1 : Int) (v1_2 : LI), f76w10 N M (f76s4 v3 v4 v5 v34 v35 v1_0 v1_1 v1_2) K =
  impl_factors.Z10L N (fun v5 => K (.exit 0) (f76s20 v5)) (fun v2 => K .ret (f76s21 v2)) M v3 v4 v5 v34 v35 v1_0 v1_1 v1_2
  | 0, _, _, _, _, _, _, _, _ => rfl
  | M + 1, v3, v4, v5, v34, v35, v1_0, v1_1, v1_2 => viaRoundS (fun k => impl_factors.Z11 N v3 v4 v5 v34 v35 v1_0 v1_1 v1_2 k (fun v5 => K (.exit 0) (f76s20 v5)) (fun v2 => K .ret (f76s21 v2))) (f76t11 N (K := seqK (fun σ => f76w10 N M σ K) K) ..) (fx8 fun v3 v4 v5 v34 v35 v1_0 v1_1 v1_2 => f76t10L N K M v3 v4 v5 v34 v35 v1_0 v1_1 v1_2) (by kernel_rfl)
theorem f76t10 N v3 v4 v5 v34 v35 v1_0 v1_1 v1_2 (K : KT ρ) : f76i N (f76c 87) f76p10 (f76s4 v3 v4 v5 v34 v35 v1_0 v1_1 v1_2) (joinK (some f76l20) K) =
  impl_factors.Z10 N v3 v4 v5 v34 v35 v1_0 v1_1 v1_2 (fun v5 => K (.exit 0) (f76s20 v5)) (fun v2 => K .ret (f76s21 v2)) :=
 viaLoopS (by kernel_rfl) (f76t10L N (joinK (some f76l20) K) N v3 v4 v5 v34 v35 v1_0 v1_1 v1_2) (by kernel_rfl)
noncomputable def f76p9 : Plan := .mk (some f76l20) none f76p10 .n
theorem f76t9 N v3 v4 v5 v34 v35 v1_0 v1_1 v1_2 (K : KT ρ) : f76i N (f76c 55) f76p9 (f76s4 v3 v4 v5 v34 v35 v1_0 v1_1 v1_2) (joinK (some f76l20) K) =
  impl_factors.Z9 N v3 v4 v5 v34 v35 v1_0 v1_1 v1_2 (fun v5 => K .nrm (f76s20 v5)) (fun v2 => K .ret (f76s21 v2)) :=
 viaBlockS (by kernel_rfl) (f76t10 N (K := blockK 0 (joinK (some f76l20) K)) ..) (by kernel_rfl)
noncomputable def f76p7 : Plan := .mk (some f76l4) none .n f76p9
theorem f76t7 N v3 v4 v5 v1_0 v1_1 v1_2 (K : KT ρ) : f76i N (f76c 23) f76p7 (f76s3 v3 v4 v5 v1_0 v1_1 v1_2) (joinK (some f76l20) K) =
  impl_factors.Z7 N v3 v4 v5 v1_0 v1_1 v1_2 (fun v5 => K .nrm (f76s20 v5)) (fun v2 => K .ret (f76s21 v2)) :=
 viaSeqS (fun k => impl_factors.Z8 N v3 v4 v5 v1_0 v1_1 v1_2 k) (by kernel_rfl) (f76t8 N (K := seqK (fun σ => f76i N (f76c 55) f76p9 σ (joinK (some f76l20) K)) (joinK (some f76l20) K)) ..) (fx8 fun v3 v4 v5 v34 v35 v1_0 v1_1 v1_2 => f76t9 N v3 v4 v5 v34 v35 v1_0 v1_1 v1_2 K) (by kernel_rfl)
theorem f76t77 N v5 (K : KT ρ) : f76i N (f76c 31) .n (f76s20 v5) (joinK (some f76lE) K) =
  impl_factors.Z77 N v5 (fun v2 => K .ret (f76s21 v2)) := by kernel_rfl
noncomputable def f76p6 : Plan := .mk (some f76l20) none f76p7 .n
theorem f76t6 N v3 v4 v5 v1_0 v1_1 v1_2 (K : KT ρ) : f76i N (f76c 15) f76p6 (f76s3 v3 v4 v5 v1_0 v1_1 v1_2) (joinK (some f76lE) K) =
  impl_factors.Z6 N v3 v4 v5 v1_0 v1_1 v1_2 (fun v2 => K .ret (f76s21 v2)) :=
 viaSeqS (fun k => impl_factors.Z7 N v3 v4 v5 v1_0 v1_1 v1_2 k (fun v2 => K .ret (f76s21 v2))) (by kernel_rfl) (f76t7 N (K := seqK (fun σ => f76i N (f76c 31) .n σ (joinK (some f76lE) K)) (joinK (some f76lE) K)) ..) (funext fun v5 => f76t77 N v5 K) (by kernel_rfl)
noncomputable def f76p4 : Plan := .mk (some f76l3) none .n f76p6
theorem f76t4 N v3 v4 v1_0 v1_1 v1_2 (K : KT ρ) : f76i N (f76c 7) f76p4 (f76s2 v3 v4 v1_0 v1_1 v1_2) (joinK (some f76lE) K) =
  impl_factors.Z4 N v3 v4 v1_0 v1_1 v1_2 (fun v2 => K .ret (f76s21 v2)) :=
 viaSeqS (fun k => impl_factors.Z5 N v3 v4 v1_0 v1_1 v1_2 k) (by kernel_rfl) (f76t5 N (K := seqK (fun σ => f76i N (f76c 15) f76p6 σ (joinK (some f76lE) K)) (joinK (some f76lE) K)) ..) (fx6 fun v3 v4 v5 v1_0 v1_1 v1_2 => f76t6 N v3 v4 v5 v1_0 v1_1 v1_2 K) (by kernel_rfl)
noncomputable def f76p2 : Plan := .mk (some f76l2) none .n f76p4
theorem f76t2 N v1_0 v1_1 v1_2 (K : KT ρ) : f76i N (f76c 3) f76p2 (f76s1 v1_0 v1_1 v1_2) (joinK (some f76lE) K) =
  impl_factors.Z2 N v1_0 v1_1 v1_2 (fun v2 => K .ret (f76s21 v2)) :=
 viaSeqS (fun k => impl_factors.Z3 N v1_0 v1_1 v1_2 k) (by kernel_rfl) (f76t3 N (K := seqK (fun σ => f76i N (f76c 7) f76p4 σ (joinK (some f76lE) K)) (joinK (some f76lE) K)) ..) (fx5 fun v3 v4 v1_0 v1_1 v1_2 => f76t4 N v3 v4 v1_0 v1_1 v1_2 K) (by kernel_rfl)
noncomputable def f76p0 : Plan := .mk (some f76l1) none .n f76p2
theorem f76t0 N v0 (K : KT ρ) : f76i N (f76c 1) f76p0 (f76s0 v0) (joinK (some f76lE) K) =
  impl_factors.Z0 N v0 (fun v2 => K .ret (f76s21 v2)) :=
 viaSeqS (fun k => impl_factors.Z1 N v0 k) (by kernel_rfl) (f76t1 N (K := seqK (fun σ => f76i N (f76c 3) f76p2 σ (joinK (some f76lE) K)) (joinK (some f76lE) K)) ..) (fx3 fun v1_0 v1_1 v1_2 => f76t2 N v1_0 v1_1 v1_2 K) (by kernel_rfl)
theorem f76m (N : Nat) (v0 : MT) : f76i N (f76c 1) f76p0 (f76s0 v0) (joinK (some f76lE) (finK tab f76sig Try.f76.results.toList)) = impl_factors.Z0 N v0 (fun v2 => some ((), (v2, ()))) :=
  (f76t0 N v0 (finK tab f76sig Try.f76.results.toList)).trans (by kernel_rfl)
theorem f76ok (h : impl_factors.Spec) : EntryOk Try.prog 76 e76 :=
  entry_of_code (sig := f76sig) (c := (f76c 1)) (pl := f76p0) (je := (some f76lE)) (B := f76B) Try.func76 (by kernel_rfl) (by kernel_rfl) (by kernel_rfl) tabOk f76GOk (by kernel_rfl) (by kernel_rfl) (by kernel_rfl) (by kernel_rfl) fun X hb hp => by
    obtain ⟨v0, _⟩ := X
    obtain ⟨N, h⟩ := h v0 hb.1 hp
    exact ⟨N, (f76m N v0).trans (h N (Nat.le_refl N))⟩
theorem e76ok : EntryOk Try.prog 76 e76 := f76ok impl_factors.ok
end Go.Fw
namespace Go.Fw
variable {ρ : Type}
open Go.Proofs
noncomputable def f31sig : Sig := ⟨[⟨.pair (.int .i64) (.pair (.int .i64) (.sl 3 (.int .i64))), true, false⟩], [⟨.bool, false, false⟩]⟩
noncomputable def e31 : Entry := ⟨f31sig, none, fun X => ((), ((impl_MatrixOk.g X.1), ()))⟩
noncomputable def f31G : Gm := addG (addG emptyG 75 e75) 76 e76
theorem f31GOk : GOk Try.prog f31G := ((GOk.nil).add e75ok (by kernel_rfl)).add e76ok (by kernel_rfl)
noncomputable def f31lE : Clean := ⟨[], [], [], [], []⟩
noncomputable def f31s0 (v0 : MT) : St := initSt f31sig.ps (v0, ())
noncomputable def f31s1 (v2 : Bool) : St := stOf [(2, xB v2)] [] []
noncomputable def f31l1 : Clean := ⟨[2], [], [], [], []⟩
noncomputable def f31B : Nat → Option Clean := lookL [(1000000, f31l1)]
noncomputable abbrev f31i {ρ : Type} (N : Nat) (c : Code) (p : Plan) (σ : St) (K : KT ρ) : Option ρ := iCode f31G tab f31B N c p σ K
noncomputable def f31c (n : Nat) : Code := codeN 99 (bodyOf Try.f31) n
theorem f31t0 N v0 (K : KT ρ) : f31i N (f31c 1) .n (f31s0 v0) (joinK (some f31lE) K) =
  impl_MatrixOk.Z0 N v0 (fun v2 => K .ret (f31s1 v2)) := by kernel_rfl
theorem f31m (N : Nat) (v0 : MT) : f31i N (f31c 1) .n (f31s0 v0) (joinK (some f31lE) (finK tab f31sig Try.f31.results.toList)) = impl_MatrixOk.Z0 N v0 (fun v2 => some ((), (v2, ()))) :=
  (f31t0 N v0 (finK tab f31sig Try.f31.results.toList)).trans (by kernel_rfl)
theorem f31ok (h : impl_MatrixOk.Spec) : EntryOk Try.prog 31 e31 :=
  entry_of_code (sig := f31sig) (c := (f31c 1)) (pl := .n) (je := (some f31lE)) (B := f31B) Try.func31 (by kernel_rfl) (by kernel_rfl) (by kernel_rfl) tabOk f31GOk (by kernel_rfl) (by kernel_rfl) (by kernel_rfl) (by kernel_rfl) fun X hb hp => by
    obtain ⟨v0, _⟩ := X
    obtain ⟨N, h⟩ := h v0 hb.1
    exact ⟨N, (f31m N v0).trans (h N (Nat.le_refl N))⟩
theorem e31ok : EntryOk Try.prog 31 e31 := f31ok impl_MatrixOk.ok
end Go.Fw
namespace Go.Fw
variable {ρ : Type}
open Go.Proofs
noncomputable def f91sig : Sig := ⟨[⟨.sl 3 (.int .i64), false, false⟩], [⟨.sl 3 (.int .i64), false, false⟩]⟩
noncomputable def e91 : Entry := ⟨f91sig, (some fun X => slices_Clone_int_int.P X.1), fun X => ((), ((slices_Clone_int_int.g X.1), ()))⟩
noncomputable def f91G : Gm := emptyG
theorem f91GOk : GOk Try.prog f91G := GOk.nil
noncomputable def f91lE : Clean := ⟨[], [], [], [], []⟩
noncomputable def f91s0 (v0 : LI) : St := initSt f91sig.ps (v0, ())
noncomputable def f91s1 (v2 : LI) : St := stOf [(2, xo 1000128)] [] [(1000128, (⟨3, .int .i64, v2, true, false⟩ : Row))]
noncomputable def f91l1 : Clean := ⟨[2], [], [⟨⟨false, 2, 0⟩, 30000000, 3, .int .i64, true⟩], [], [(⟨false, 2, 0⟩, 1000128)]⟩
noncomputable def f91B : Nat → Option Clean := lookL [(1000000, f91l1)]
noncomputable abbrev f91i {ρ : Type} (N : Nat) (c : Code) (p : Plan) (σ : St) (K : KT ρ) : Option ρ := iCode f91G tab f91B N c p σ K
noncomputable def f91c (n : Nat) : Code := codeN 99 (bodyOf Try.f91) n
theorem f91t0 N v0 (K : KT ρ) : f91i N (f91c 1) .n (f91s0 v0) (joinK (some f91lE) K) =
  slices_Clone_int_int.Z0 N v0 (fun v2 => K .ret (f91s1 v2)) := by kernel_rfl
theorem f91m (N : Nat) (v0 : LI) : f91i N (f91c 1) .n (f91s0 v0) (joinK (some f91lE) (finK tab f91sig Try.f91.results.toList)) = slices_Clone_int_int.Z0 N v0 (fun v2 => some ((), (v2, ()))) :=
  (f91t0 N v0 (finK tab f91sig Try.f91.results.toList)).trans (by kernel_rfl)
theorem f91ok (h : slices_Clone_int_int.Spec) : EntryOk Try.prog 91 e91 :=
  entry_of_code (sig := f91sig) (c := (f91c 1)) (pl := .n) (je := (some f91lE)) (B := f91B) Try.func91 (by kernel_rfl) (by kernel_rfl) (by kernel_rfl) tabOk f91GOk (by kernel_rfl) (by kernel_rfl) (by kernel_rfl) (by kernel_rfl) fun X hb hp => by
    obtain ⟨v0, _⟩ := X
    obtain ⟨N, h⟩ := h v0 hb.1 hp
    exact ⟨N, (f91m N v0).trans (h N (Nat.le_refl N))⟩
theorem e91ok : EntryOk Try.prog 91 e91 := f91ok slices_Clone_int_int.ok
end Go.Fw
namespace Go.Fw
variable {ρ : Type}
open Go.Proofs
noncomputable def f113rf : Rf := none
noncomputable def f113ps : List PT := [⟨.sl 3 (.int .i64), false, true⟩, ⟨.int .i64, false, false⟩, ⟨.sl 3 (.int .i64), false, true⟩]
noncomputable def f113rs : List PT := [⟨.sl 3 (.int .i64), false, false⟩]
noncomputable def e113 : EntryM := ⟨f113rf, f113ps, f113rs, (some fun X => slices_Insert_int_int.P X.2.1 X.2.2.1 X.2.2.2.1), fun X => ((), ((slices_Insert_int_int.g X.2.1 X.2.2.1 X.2.2.2.1), ()))⟩
noncomputable def f113ren : Go.Shelf.Ren := ⟨fun | 21 => 113 | 27 => 130 | 28 => 131 | 35 => 138 | 39 => 139 | n => n, fun | 22 => 22 | 3 => 3 | 4 => 4 | 0 => 0 | n => n, fun n => n⟩
theorem f113lay : Lays2.n21 Try.prog f113ren := { mixed := (by kernel_rfl), f21 := Try.func113.trans (congrArg some (by kernel_rfl)), f27 := Try.func130.trans (congrArg some (by kernel_rfl)), f28 := Try.func131.trans (congrArg some (by kernel_rfl)), f35 := Try.func138.trans (congrArg some (by kernel_rfl)), f39 := Try.func139.trans (congrArg some (by kernel_rfl)), t0 := Try.underlying0, a0 := Try.isAgg0, z0 := Try.sizeOf0, v0 := Try.zeroValue0, t3 := Try.underlying3, a3 := Try.isAgg3, z3 := Try.sizeOf3, v3 := Try.zeroValue3, t4 := Try.underlying4, a4 := Try.isAgg4, z4 := Try.sizeOf4, v4 := Try.zeroValue4, t22 := Try.underlying22, a22 := Try.isAgg22, z22 := Try.sizeOf22, v22 := Try.zeroValue22, i3 := (by kernel_rfl) }
theorem f113ok (_ : True) : EntryMOk Try.prog 113 e113 := insert_ok f113lay
theorem e113ok : EntryMOk Try.prog 113 e113 := f113ok slices_Insert_int_int.ok
end Go.Fw
