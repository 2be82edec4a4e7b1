/- The ties: the program's text comes to the plain functions. Nothing is assumed. -/
import Derived.Test.YtillpdbmnjkjiaaDoorFza
import Derived.Test.YtillpdbmnjkjiaaDoorProg
import Derived.Test.YtillpdbmnjkjiaaDoorPuFnExactFormatMatrixa
import Derived.Test.YtillpdbmnjkjiaaDoorChecked
set_option linter.unusedVariables false
set_option linter.unusedSimpArgs false
set_option maxRecDepth 100000
namespace Go.Fw
open Go.Proofs
def tab : Tab := lookTab [
  (2, ⟨false, .int .i64, [.int .i64 0], [], none, 8⟩),
  (3, ⟨false, .int .i64, [.int .i64 0], [], none, 8⟩),
  (4, ⟨false, .bool, [.bool false], [], none, 1⟩),
  (5, ⟨false, .int .u8, [.int .u8 0], [], none, 1⟩),
  (6, ⟨false, .int .u8, [.int .u8 0], [], none, 1⟩),
  (7, ⟨true, .pair (.int .i64) (.pair (.int .i64) (.pair (.bool) (.int .u8))), [.int .i64 0, .int .i64 0, .bool false, .int .u8 0], [(0, 1, false), (1, 1, false), (2, 1, false), (3, 1, false)], none, 24⟩),
  (8, ⟨true, .pair (.int .i64) (.pair (.int .i64) (.pair (.bool) (.int .u8))), [.int .i64 0, .int .i64 0, .bool false, .int .u8 0], [(0, 1, false), (1, 1, false), (2, 1, false), (3, 1, false)], none, 24⟩),
  (9, ⟨false, .str, [.str ByteArray.empty], [], none, 16⟩),
  (10, ⟨false, .str, [.str ByteArray.empty], [], none, 16⟩),
  (11, ⟨false, .str, [.str ByteArray.empty], [], none, 16⟩),
  (12, ⟨false, .int .u64, [.int .u64 0], [], none, 8⟩),
  (13, ⟨true, .pair (.str) (.int .u64), [.str ByteArray.empty, .int .u64 0], [(0, 1, false), (1, 1, false)], none, 24⟩),
  (14, ⟨true, .pair (.str) (.int .u64), [.str ByteArray.empty, .int .u64 0], [(0, 1, false), (1, 1, false)], none, 24⟩),
  (21, ⟨false, .int .i32, [.int .i32 0], [], none, 4⟩),
  (22, ⟨false, .sl 59 (.pair (.sl 3 (.int .i64)) (.int .i64)), [.nil], [], some 59, 24⟩),
  (23, ⟨true, .pair (.int .i64) (.sl 59 (.pair (.sl 3 (.int .i64)) (.int .i64))), [.int .i64 0, .nil], [(0, 1, false), (1, 1, false)], none, 32⟩),
  (24, ⟨true, .pair (.int .i64) (.sl 59 (.pair (.sl 3 (.int .i64)) (.int .i64))), [.int .i64 0, .nil], [(0, 1, false), (1, 1, false)], none, 32⟩),
  (27, ⟨false, .sl 46 (.pair (.sl 3 (.int .i64)) (.int .i64)), [.nil], [], some 46, 24⟩),
  (28, ⟨true, .pair (.int .i64) (.sl 46 (.pair (.sl 3 (.int .i64)) (.int .i64))), [.int .i64 0, .nil], [(0, 1, false), (1, 1, false)], none, 32⟩),
  (29, ⟨true, .pair (.int .i64) (.sl 46 (.pair (.sl 3 (.int .i64)) (.int .i64))), [.int .i64 0, .nil], [(0, 1, false), (1, 1, false)], none, 32⟩),
  (33, ⟨false, .sl 3 (.int .i64), [.nil], [], some 3, 24⟩),
  (34, ⟨true, .pair (.int .i64) (.pair (.int .i64) (.sl 3 (.int .i64))), [.int .i64 0, .int .i64 0, .nil], [(0, 1, false), (1, 1, false), (2, 1, false)], none, 40⟩),
  (35, ⟨true, .pair (.int .i64) (.pair (.int .i64) (.sl 3 (.int .i64))), [.int .i64 0, .int .i64 0, .nil], [(0, 1, false), (1, 1, false), (2, 1, false)], none, 40⟩),
  (38, ⟨true, .pair (.int .i64) (.pair (.int .i64) (.sl 3 (.int .i64))), [.int .i64 0, .int .i64 0, .nil], [(0, 1, false), (1, 1, false), (2, 1, false)], none, 40⟩),
  (45, ⟨true, .pair (.sl 3 (.int .i64)) (.int .i64), [.nil, .int .i64 0], [(0, 1, false), (1, 1, false)], none, 32⟩),
  (46, ⟨true, .pair (.sl 3 (.int .i64)) (.int .i64), [.nil, .int .i64 0], [(0, 1, false), (1, 1, false)], none, 32⟩),
  (49, ⟨false, .sl 9 (.str), [.nil], [], some 9, 24⟩),
  (55, ⟨false, .sl 33 (.sl 3 (.int .i64)), [.nil], [], some 33, 24⟩),
  (59, ⟨true, .pair (.sl 3 (.int .i64)) (.int .i64), [.nil, .int .i64 0], [(0, 1, false), (1, 1, false)], none, 32⟩),
  (61, ⟨false, .sl 5 (.int .u8), [.nil], [], some 5, 24⟩),
  (92, ⟨false, .int .u64, [.int .u64 0], [], none, 8⟩),
  (99, ⟨false, .int .u32, [.int .u32 0], [], none, 4⟩),
  (101, ⟨false, .int .u64, [.int .u64 0], [], none, 8⟩),
  (112, ⟨false, .int .u8, [.int .u8 0], [], none, 1⟩),
  (113, ⟨false, .int .u8, [.int .u8 0], [], none, 1⟩),
  (115, ⟨false, .int .i32, [.int .i32 0], [], none, 4⟩),
  (116, ⟨false, .int .i32, [.int .i32 0], [], none, 4⟩)]
theorem tabOk : TOk Tryd.prog tab := TOk.of (by kernel_rfl)
noncomputable def tabl : List (String × IntKind × List Int) := [("internal/strconv.uint64pow10", .u64, Lib.pow10Tab)]
noncomputable def intl : List (String × IntKind) := []
noncomputable instance : Inv Tryd.prog := Inv.tabs _ tabl intl
theorem tab0 (w : World) (h : Inv.I Tryd.prog w) : Lib.TabIs Tryd.prog w "internal/strconv.uint64pow10" .u64 Lib.pow10Tab := Inv.tab_mem (q := intl) ("internal/strconv.uint64pow10", .u64, Lib.pow10Tab) (List.mem_of_getElem? (i := 0) rfl) w h
end Go.Fw
namespace Go.Fw
variable {ρ : Type}
open Go.Proofs
noncomputable def f25sig : Sig := ⟨[⟨.sl 3 (.int .i64), false, false⟩, ⟨.int .i64, false, false⟩], [⟨.int .i64, false, false⟩]⟩
noncomputable def e25 : Entry := ⟨f25sig, none, fun X => ((), ((laws_szIntS.g X.1 X.2.1), ()))⟩
noncomputable def f25G : Gm := emptyG
theorem f25GOk : GOk Tryd.prog f25G := GOk.nil
noncomputable def f25lE : Clean := ⟨[], [], [], [], []⟩
noncomputable def f25s0 (v0 : LI) (v1 : Int) : St := initSt f25sig.ps (v0, (v1, ()))
noncomputable def f25s1 (v4 : Int) : St := stOf [(4, xi v4)] [] []
noncomputable def f25l1 : Clean := ⟨[4], [], [], [], []⟩
noncomputable def f25B : Nat → Option Clean := lookL [(1000000, f25l1)]
noncomputable abbrev f25i {ρ : Type} (N : Nat) (c : Code) (p : Plan) (σ : St) (K : KT ρ) : Option ρ := iCode f25G tab f25B N c p σ K
noncomputable def f25c (n : Nat) : Code := codeN 99 (bodyOf Tryd.f25) n
theorem f25t0 N v0 v1 (K : KT ρ) : f25i N (f25c 1) .n (f25s0 v0 v1) (joinK (some f25lE) K) =
  laws_szIntS.Z0 N v0 v1 (fun v4 => K .ret (f25s1 v4)) := by kernel_rfl
theorem f25m (N : Nat) (v0 : LI) (v1 : Int) : f25i N (f25c 1) .n (f25s0 v0 v1) (joinK (some f25lE) (finK tab f25sig Tryd.f25.results.toList)) = laws_szIntS.Z0 N v0 v1 (fun v4 => some ((), (v4, ()))) :=
  (f25t0 N v0 v1 (finK tab f25sig Tryd.f25.results.toList)).trans (by kernel_rfl)
theorem f25ok (h : laws_szIntS.Spec) : EntryOk Tryd.prog 25 e25 :=
  entry_of_code (sig := f25sig) (c := (f25c 1)) (pl := .n) (je := (some f25lE)) (B := f25B) Tryd.func25 (by kernel_rfl) (by kernel_rfl) (by kernel_rfl) tabOk f25GOk (by kernel_rfl) (by kernel_rfl) (by kernel_rfl) (by kernel_rfl) fun X hb hp => by
    obtain ⟨v0, v1, _⟩ := X
    obtain ⟨N, h⟩ := h v0 v1 hb.1
    exact ⟨N, (f25m N v0 v1).trans (h N (Nat.le_refl N))⟩
theorem e25ok : EntryOk Tryd.prog 25 e25 := f25ok laws_szIntS.ok
end Go.Fw
namespace Go.Fw
variable {ρ : Type}
open Go.Proofs
noncomputable def f10sig : Sig := ⟨[⟨.pair (.int .i64) (.pair (.int .i64) (.sl 3 (.int .i64))), true, false⟩, ⟨.int .i64, false, false⟩], [⟨.int .i64, false, false⟩]⟩
noncomputable def e10 : Entry := ⟨f10sig, none, fun X => ((), ((laws_szMatrix.g X.1 X.2.1), ()))⟩
noncomputable def f10G : Gm := addG emptyG 25 e25
theorem f10GOk : GOk Tryd.prog f10G := (GOk.nil).add e25ok (by kernel_rfl)
noncomputable def f10lE : Clean := ⟨[], [], [], [], []⟩
noncomputable def f10s0 (v0 : MT) (v1 : Int) : St := initSt f10sig.ps (v0, (v1, ()))
noncomputable def f10s1 (v4 : Int) : St := stOf [(4, xi v4)] [] []
noncomputable def f10l1 : Clean := ⟨[4], [], [], [], []⟩
noncomputable def f10B : Nat → Option Clean := lookL [(1000000, f10l1)]
noncomputable abbrev f10i {ρ : Type} (N : Nat) (c : Code) (p : Plan) (σ : St) (K : KT ρ) : Option ρ := iCode f10G tab f10B N c p σ K
noncomputable def f10c (n : Nat) : Code := codeN 99 (bodyOf Tryd.f10) n
theorem f10t0 N v0 v1 (K : KT ρ) : f10i N (f10c 1) .n (f10s0 v0 v1) (joinK (some f10lE) K) =
  laws_szMatrix.Z0 N v0 v1 (fun v4 => K .ret (f10s1 v4)) := by kernel_rfl
theorem f10m (N : Nat) (v0 : MT) (v1 : Int) : f10i N (f10c 1) .n (f10s0 v0 v1) (joinK (some f10lE) (finK tab f10sig Tryd.f10.results.toList)) = laws_szMatrix.Z0 N v0 v1 (fun v4 => some ((), (v4, ()))) :=
  (f10t0 N v0 v1 (finK tab f10sig Tryd.f10.results.toList)).trans (by kernel_rfl)
theorem f10ok (h : laws_szMatrix.Spec) : EntryOk Tryd.prog 10 e10 :=
  entry_of_code (sig := f10sig) (c := (f10c 1)) (pl := .n) (je := (some f10lE)) (B := f10B) Tryd.func10 (by kernel_rfl) (by kernel_rfl) (by kernel_rfl) tabOk f10GOk (by kernel_rfl) (by kernel_rfl) (by kernel_rfl) (by kernel_rfl) fun X hb hp => by
    obtain ⟨v0, v1, _⟩ := X
    obtain ⟨N, h⟩ := h v0 v1 hb.1
    exact ⟨N, (f10m N v0 v1).trans (h N (Nat.le_refl N))⟩
theorem e10ok : EntryOk Tryd.prog 10 e10 := f10ok laws_szMatrix.ok
end Go.Fw
namespace Go.Fw
variable {ρ : Type}
open Go.Proofs
noncomputable def f27sig : Sig := ⟨[⟨.sl 3 (.int .i64), false, false⟩], [⟨.sl 3 (.int .i64), false, false⟩]⟩
noncomputable def e27 : Entry := ⟨f27sig, (some fun X => laws_toIntS.P X.1), fun X => ((), ((laws_toIntS.g X.1), ()))⟩
noncomputable def f27G : Gm := emptyG
theorem f27GOk : GOk Tryd.prog f27G := GOk.nil
noncomputable def f27lE : Clean := ⟨[], [], [], [], []⟩
noncomputable def f27s0 (v0 : LI) : St := initSt f27sig.ps (v0, ())
noncomputable def f27s1 (v0 : LI) : St := stOf [(0, .c (.sn 3 tI v0 none))] [] []
noncomputable def f27l1 : Clean := ⟨[0], [], [], [], []⟩
noncomputable def f27s2 (v3 v0 : LI) : St := stOf [(0, .c (.sn 3 tI v0 none)), (3, xo 1000192)] [] [(1000192, (⟨3, .int .i64, v3, true, false⟩ : Row))]
noncomputable def f27l2 : Clean := ⟨[0, 3], [], [], [], [(⟨false, 3, 0⟩, 1000192)]⟩
noncomputable def f27s3 (v3 v0 : LI) (v4 : Int) : St := stOf [(0, .c (.sn 3 tI v0 none)), (3, xo 1000192), (4, xi v4)] [] [(1000192, (⟨3, .int .i64, v3, true, false⟩ : Row))]
noncomputable def f27l3 : Clean := ⟨[0, 3, 4], [], [], [], [(⟨false, 3, 0⟩, 1000192)]⟩
noncomputable def f27s4 (v3 : LI) : St := stOf [(3, xo 1000192)] [] [(1000192, (⟨3, .int .i64, v3, true, false⟩ : Row))]
noncomputable def f27l4 : Clean := ⟨[3], [], [], [], [(⟨false, 3, 0⟩, 1000192)]⟩
noncomputable def f27s5 (v2 : LI) : St := stOf [(2, xo 1000128)] [] [(1000128, (⟨3, .int .i64, v2, true, false⟩ : Row))]
noncomputable def f27l5 : Clean := ⟨[2], [], [], [], [(⟨false, 2, 0⟩, 1000128)]⟩
noncomputable def f27B : Nat → Option Clean := lookL [(0, f27l4), (1000000, f27l5)]
noncomputable abbrev f27i {ρ : Type} (N : Nat) (c : Code) (p : Plan) (σ : St) (K : KT ρ) : Option ρ := iCode f27G tab f27B N c p σ K
noncomputable def f27c (n : Nat) : Code := codeN 99 (bodyOf Tryd.f27) n
theorem f27t1 N v0 (K : KT ρ) : f27i N (f27c 2) .n (f27s0 v0) (joinK (some f27l1) K) =
  laws_toIntS.Z1 N v0 (fun v0 => K .nrm (f27s1 v0)) := by kernel_rfl
theorem f27t3 N v0 (K : KT ρ) : f27i N (f27c 5) .n (f27s1 v0) (joinK (some f27l2) K) =
  laws_toIntS.Z3 N v0 (fun v3 v0 => K .nrm (f27s2 v3 v0)) := by kernel_rfl
theorem f27t6 N v3 v0 (K : KT ρ) : f27i N (f27c 19) .n (f27s2 v3 v0) (joinK (some f27l3) K) =
  laws_toIntS.Z6 N v3 v0 (fun v3 v0 v4 => K .nrm (f27s3 v3 v0 v4)) := by kernel_rfl
theorem f27t9 N v3 v0 v4 (K : KT ρ) : f27i N (f27c 75) .n (f27s3 v3 v0 v4) (joinK (some f27l3) K) =
  laws_toIntS.Z9 N v3 v0 v4 (fun v3 v0 v4 => K .nrm (f27s3 v3 v0 v4)) (fun v3 => K (.exit 0) (f27s4 v3)) := by kernel_rfl
noncomputable def f27p8 : Plan := .mk none (some f27l3) .n .n
noncomputable abbrev f27w8 {ρ : Type} (N M : Nat) (σ : St) (K : KT ρ) : Option ρ := loopC (fun σ K => f27i N (f27c 75) .n σ K) f27l3 M σ K
theorem f27t8L {ρ : Type} (N : Nat) (K : KT ρ) : ∀ (M : Nat) (v3 v0 : LI) (v4 : Int), f27w8 N M (f27s3 v3 v0 v4) K =
  laws_toIntS.Z8L N (fun v3 => K (.exit 0) (f27s4 v3)) M v3 v0 v4
  | 0, _, _, _ => rfl
  | M + 1, v3, v0, v4 => viaRoundS (fun k => laws_toIntS.Z9 N v3 v0 v4 k (fun v3 => K (.exit 0) (f27s4 v3))) (f27t9 N (K := seqK (fun σ => f27w8 N M σ K) K) ..) (fx3 fun v3 v0 v4 => f27t8L N K M v3 v0 v4) (by kernel_rfl)
theorem f27t8 N v3 v0 v4 (K : KT ρ) : f27i N (f27c 43) f27p8 (f27s3 v3 v0 v4) (joinK (some f27l4) K) =
  laws_toIntS.Z8 N v3 v0 v4 (fun v3 => K (.exit 0) (f27s4 v3)) :=
 viaLoopS (by kernel_rfl) (f27t8L N (joinK (some f27l4) K) N v3 v0 v4) (by kernel_rfl)
noncomputable def f27p7 : Plan := .mk (some f27l4) none f27p8 .n
theorem f27t7 N v3 v0 v4 (K : KT ρ) : f27i N (f27c 27) f27p7 (f27s3 v3 v0 v4) (joinK (some f27l4) K) =
  laws_toIntS.Z7 N v3 v0 v4 (fun v3 => K .nrm (f27s4 v3)) :=
 viaBlockS (by kernel_rfl) (f27t8 N (K := blockK 0 (joinK (some f27l4) K)) ..) (by kernel_rfl)
noncomputable def f27p5 : Plan := .mk (some f27l3) none .n f27p7
theorem f27t5 N v3 v0 (K : KT ρ) : f27i N (f27c 11) f27p5 (f27s2 v3 v0) (joinK (some f27l4) K) =
  laws_toIntS.Z5 N v3 v0 (fun v3 => K .nrm (f27s4 v3)) :=
 viaSeqS (fun k => laws_toIntS.Z6 N v3 v0 k) (by kernel_rfl) (f27t6 N (K := seqK (fun σ => f27i N (f27c 27) f27p7 σ (joinK (some f27l4) K)) (joinK (some f27l4) K)) ..) (fx3 fun v3 v0 v4 => f27t7 N v3 v0 v4 K) (by kernel_rfl)
theorem f27t10 N v3 (K : KT ρ) : f27i N (f27c 15) .n (f27s4 v3) (joinK (some f27lE) K) =
  laws_toIntS.Z10 N v3 (fun v2 => K .ret (f27s5 v2)) := by kernel_rfl
noncomputable def f27p4 : Plan := .mk (some f27l4) none f27p5 .n
theorem f27t4 N v3 v0 (K : KT ρ) : f27i N (f27c 7) f27p4 (f27s2 v3 v0) (joinK (some f27lE) K) =
  laws_toIntS.Z4 N v3 v0 (fun v2 => K .ret (f27s5 v2)) :=
 viaSeqS (fun k => laws_toIntS.Z5 N v3 v0 k) (by kernel_rfl) (f27t5 N (K := seqK (fun σ => f27i N (f27c 15) .n σ (joinK (some f27lE) K)) (joinK (some f27lE) K)) ..) (funext fun v3 => f27t10 N v3 K) (by kernel_rfl)
noncomputable def f27p2 : Plan := .mk (some f27l2) none .n f27p4
theorem f27t2 N v0 (K : KT ρ) : f27i N (f27c 3) f27p2 (f27s1 v0) (joinK (some f27lE) K) =
  laws_toIntS.Z2 N v0 (fun v2 => K .ret (f27s5 v2)) :=
 viaSeqS (fun k => laws_toIntS.Z3 N v0 k) (by kernel_rfl) (f27t3 N (K := seqK (fun σ => f27i N (f27c 7) f27p4 σ (joinK (some f27lE) K)) (joinK (some f27lE) K)) ..) (fx2 fun v3 v0 => f27t4 N v3 v0 K) (by kernel_rfl)
noncomputable def f27p0 : Plan := .mk (some f27l1) none .n f27p2
theorem f27t0 N v0 (K : KT ρ) : f27i N (f27c 1) f27p0 (f27s0 v0) (joinK (some f27lE) K) =
  laws_toIntS.Z0 N v0 (fun v2 => K .ret (f27s5 v2)) :=
 viaSeqS (fun k => laws_toIntS.Z1 N v0 k) (by kernel_rfl) (f27t1 N (K := seqK (fun σ => f27i N (f27c 3) f27p2 σ (joinK (some f27lE) K)) (joinK (some f27lE) K)) ..) (funext fun v0 => f27t2 N v0 K) (by kernel_rfl)
theorem f27m (N : Nat) (v0 : LI) : f27i N (f27c 1) f27p0 (f27s0 v0) (joinK (some f27lE) (finK tab f27sig Tryd.f27.results.toList)) = laws_toIntS.Z0 N v0 (fun v2 => some ((), (v2, ()))) :=
  (f27t0 N v0 (finK tab f27sig Tryd.f27.results.toList)).trans (by kernel_rfl)
theorem f27ok (h : laws_toIntS.Spec) : EntryOk Tryd.prog 27 e27 :=
  entry_of_code (sig := f27sig) (c := (f27c 1)) (pl := f27p0) (je := (some f27lE)) (B := f27B) Tryd.func27 (by kernel_rfl) (by kernel_rfl) (by kernel_rfl) tabOk f27GOk (by kernel_rfl) (by kernel_rfl) (by kernel_rfl) (by kernel_rfl) fun X hb hp => by
    obtain ⟨v0, _⟩ := X
    obtain ⟨N, h⟩ := h v0 hb.1 hp
    exact ⟨N, (f27m N v0).trans (h N (Nat.le_refl N))⟩
theorem e27ok : EntryOk Tryd.prog 27 e27 := f27ok laws_toIntS.ok
end Go.Fw
namespace Go.Fw
variable {ρ : Type}
open Go.Proofs
noncomputable def f12sig : Sig := ⟨[⟨.pair (.int .i64) (.pair (.int .i64) (.sl 3 (.int .i64))), true, false⟩], [⟨.pair (.int .i64) (.pair (.int .i64) (.sl 3 (.int .i64))), true, false⟩]⟩
noncomputable def e12 : Entry := ⟨f12sig, (some fun X => laws_toMatrix.P X.1), fun X => ((), ((laws_toMatrix.g X.1), ()))⟩
noncomputable def f12G : Gm := addG emptyG 27 e27
theorem f12GOk : GOk Tryd.prog f12G := (GOk.nil).add e27ok (by kernel_rfl)
noncomputable def f12lE : Clean := ⟨[], [], [], [], []⟩
noncomputable def f12s0 (v0 : MT) : St := initSt f12sig.ps (v0, ())
noncomputable def f12s1 (v2_2 : LI) (v2_0 v2_1 : Int) : St := stOf [(2, xb 2)] [(2, (38, [yi v2_0, yi v2_1, .own 20000130]))] [(20000130, (⟨3, .int .i64, v2_2, true, false⟩ : Row))]
noncomputable def f12l1 : Clean := ⟨[2], [2], [], [], [(⟨true, 2, 2⟩, 20000130)]⟩
noncomputable def f12B : Nat → Option Clean := lookL [(1000000, f12l1)]
noncomputable abbrev f12i {ρ : Type} (N : Nat) (c : Code) (p : Plan) (σ : St) (K : KT ρ) : Option ρ := iCode f12G tab f12B N c p σ K
noncomputable def f12c (n : Nat) : Code := codeN 99 (bodyOf Tryd.f12) n
theorem f12t0 N v0 (K : KT ρ) : f12i N (f12c 1) .n (f12s0 v0) (joinK (some f12lE) K) =
  laws_toMatrix.Z0 N v0 (fun v2_2 v2_0 v2_1 => K .ret (f12s1 v2_2 v2_0 v2_1)) := by kernel_rfl
theorem f12m (N : Nat) (v0 : MT) : f12i N (f12c 1) .n (f12s0 v0) (joinK (some f12lE) (finK tab f12sig Tryd.f12.results.toList)) = laws_toMatrix.Z0 N v0 (fun v2_2 v2_0 v2_1 => some ((), ((v2_0, (v2_1, v2_2)), ()))) :=
  (f12t0 N v0 (finK tab f12sig Tryd.f12.results.toList)).trans (by kernel_rfl)
theorem f12ok (h : laws_toMatrix.Spec) : EntryOk Tryd.prog 12 e12 :=
  entry_of_code (sig := f12sig) (c := (f12c 1)) (pl := .n) (je := (some f12lE)) (B := f12B) Tryd.func12 (by kernel_rfl) (by kernel_rfl) (by kernel_rfl) tabOk f12GOk (by kernel_rfl) (by kernel_rfl) (by kernel_rfl) (by kernel_rfl) fun X hb hp => by
    obtain ⟨v0, _⟩ := X
    obtain ⟨N, h⟩ := h v0 hb.1 hp
    exact ⟨N, (f12m N v0).trans (h N (Nat.le_refl N))⟩
theorem e12ok : EntryOk Tryd.prog 12 e12 := f12ok laws_toMatrix.ok
end Go.Fw
namespace Go.Fw
variable {ρ : Type}
open Go.Proofs
noncomputable def f32sig : Sig := ⟨[⟨.int .i64, false, false⟩, ⟨.int .i64, false, false⟩, ⟨.int .i64, false, false⟩], [⟨.bool, false, false⟩]⟩
noncomputable def e32 : Entry := ⟨f32sig, none, fun X => ((), ((spec_l1In.g X.1 X.2.1 X.2.2.1), ()))⟩
noncomputable def f32G : Gm := emptyG
theorem f32GOk : GOk Tryd.prog f32G := GOk.nil
noncomputable def f32lE : Clean := ⟨[], [], [], [], []⟩
noncomputable def f32s0 (v0 v1 v2 : Int) : St := initSt f32sig.ps (v0, (v1, (v2, ())))
noncomputable def f32s1 (v6 : Bool) : St := stOf [(6, xB v6)] [] []
noncomputable def f32l1 : Clean := ⟨[6], [], [], [], []⟩
noncomputable def f32B : Nat → Option Clean := lookL [(1000000, f32l1)]
noncomputable abbrev f32i {ρ : Type} (N : Nat) (c : Code) (p : Plan) (σ : St) (K : KT ρ) : Option ρ := iCode f32G tab f32B N c p σ K
noncomputable def f32c (n : Nat) : Code := codeN 99 (bodyOf Tryd.f32) n
theorem f32t0 N v0 v1 v2 (K : KT ρ) : f32i N (f32c 1) .n (f32s0 v0 v1 v2) (joinK (some f32lE) K) =
  spec_l1In.Z0 N v0 v1 v2 (fun v6 => K .ret (f32s1 v6)) := by kernel_rfl
theorem f32m (N : Nat) (v0 v1 v2 : Int) : f32i N (f32c 1) .n (f32s0 v0 v1 v2) (joinK (some f32lE) (finK tab f32sig Tryd.f32.results.toList)) = spec_l1In.Z0 N v0 v1 v2 (fun v6 => some ((), (v6, ()))) :=
  (f32t0 N v0 v1 v2 (finK tab f32sig Tryd.f32.results.toList)).trans (by kernel_rfl)
theorem f32ok (h : spec_l1In.Spec) : EntryOk Tryd.prog 32 e32 :=
  entry_of_code (sig := f32sig) (c := (f32c 1)) (pl := .n) (je := (some f32lE)) (B := f32B) Tryd.func32 (by kernel_rfl) (by kernel_rfl) (by kernel_rfl) tabOk f32GOk (by kernel_rfl) (by kernel_rfl) (by kernel_rfl) (by kernel_rfl) fun X hb hp => by
    obtain ⟨v0, v1, v2, _⟩ := X
    obtain ⟨N, h⟩ := h v0 v1 v2
    exact ⟨N, (f32m N v0 v1 v2).trans (h N (Nat.le_refl N))⟩
theorem e32ok : EntryOk Tryd.prog 32 e32 := f32ok spec_l1In.ok
end Go.Fw
namespace Go.Fw
variable {ρ : Type}
open Go.Proofs
noncomputable def f54sig : Sig := ⟨[⟨.pair (.int .i64) (.pair (.int .i64) (.sl 3 (.int .i64))), true, false⟩, ⟨.int .i64, false, false⟩, ⟨.int .i64, false, false⟩], [⟨.int .i64, false, false⟩]⟩
noncomputable def e54 : Entry := ⟨f54sig, (some fun X => spec_l1At.P X.1 X.2.1 X.2.2.1), fun X => ((), ((spec_l1At.g X.1 X.2.1 X.2.2.1), ()))⟩
noncomputable def f54G : Gm := emptyG
theorem f54GOk : GOk Tryd.prog f54G := GOk.nil
noncomputable def f54lE : Clean := ⟨[], [], [], [], []⟩
noncomputable def f54s0 (v0 : MT) (v1 v2 : Int) : St := initSt f54sig.ps (v0, (v1, (v2, ())))
noncomputable def f54s1 (v6 : Int) : St := stOf [(6, xi v6)] [] []
noncomputable def f54l1 : Clean := ⟨[6], [], [], [], []⟩
noncomputable def f54B : Nat → Option Clean := lookL [(1000000, f54l1)]
noncomputable abbrev f54i {ρ : Type} (N : Nat) (c : Code) (p : Plan) (σ : St) (K : KT ρ) : Option ρ := iCode f54G tab f54B N c p σ K
noncomputable def f54c (n : Nat) : Code := codeN 99 (bodyOf Tryd.f54) n
theorem f54t0 N v0 v1 v2 (K : KT ρ) : f54i N (f54c 1) .n (f54s0 v0 v1 v2) (joinK (some f54lE) K) =
  spec_l1At.Z0 N v0 v1 v2 (fun v6 => K .ret (f54s1 v6)) := by kernel_rfl
theorem f54m (N : Nat) (v0 : MT) (v1 v2 : Int) : f54i N (f54c 1) .n (f54s0 v0 v1 v2) (joinK (some f54lE) (finK tab f54sig Tryd.f54.results.toList)) = spec_l1At.Z0 N v0 v1 v2 (fun v6 => some ((), (v6, ()))) :=
  (f54t0 N v0 v1 v2 (finK tab f54sig Tryd.f54.results.toList)).trans (by kernel_rfl)
theorem f54ok (h : spec_l1At.Spec) : EntryOk Tryd.prog 54 e54 :=
  entry_of_code (sig := f54sig) (c := (f54c 1)) (pl := .n) (je := (some f54lE)) (B := f54B) Tryd.func54 (by kernel_rfl) (by kernel_rfl) (by kernel_rfl) tabOk f54GOk (by kernel_rfl) (by kernel_rfl) (by kernel_rfl) (by kernel_rfl) fun X hb hp => by
    obtain ⟨v0, v1, v2, _⟩ := X
    obtain ⟨N, h⟩ := h v0 v1 v2 hb.1 hp
    exact ⟨N, (f54m N v0 v1 v2).trans (h N (Nat.le_refl N))⟩
theorem e54ok : EntryOk Tryd.prog 54 e54 := f54ok spec_l1At.ok
end Go.Fw
namespace Go.Fw
variable {ρ : Type}
open Go.Proofs
noncomputable def f44sig : Sig := ⟨[⟨.pair (.int .i64) (.pair (.int .i64) (.sl 3 (.int .i64))), true, false⟩], [⟨.bool, false, false⟩]⟩
noncomputable def e44 : Entry := ⟨f44sig, none, fun X => ((), ((spec_l1Sizes.g X.1), ()))⟩
noncomputable def f44G : Gm := addG (addG emptyG 32 e32) 54 e54
theorem f44GOk : GOk Tryd.prog f44G := ((GOk.nil).add e32ok (by kernel_rfl)).add e54ok (by kernel_rfl)
noncomputable def f44lE : Clean := ⟨[], [], [], [], []⟩
noncomputable def f44s0 (v0 : MT) : St := initSt f44sig.ps (v0, ())
noncomputable def f44s1 (v1_0 v1_1 : Int) (v1_2 : LI) : St := stOf [(1, xb 1)] [(1, (38, [yi v1_0, yi v1_1, .sn 3 tI v1_2 none]))] []
noncomputable def f44l1 : Clean := ⟨[1], [1], [], [], []⟩
noncomputable def f44s2 (v3 v1_0 v1_1 : Int) (v1_2 : LI) : St := stOf [(1, xb 1), (3, xi v3)] [(1, (38, [yi v1_0, yi v1_1, .sn 3 tI v1_2 none]))] []
noncomputable def f44l2 : Clean := ⟨[1, 3], [1], [], [], []⟩
noncomputable def f44s3 (v4 v1_0 v1_1 : Int) (v1_2 : LI) : St := stOf [(1, xb 1), (4, xi v4)] [(1, (38, [yi v1_0, yi v1_1, .sn 3 tI v1_2 none]))] []
noncomputable def f44l3 : Clean := ⟨[1, 4], [1], [], [], []⟩
noncomputable def f44s4 (v4 v5 v1_0 v1_1 : Int) (v1_2 : LI) : St := stOf [(1, xb 1), (4, xi v4), (5, xi v5)] [(1, (38, [yi v1_0, yi v1_1, .sn 3 tI v1_2 none]))] []
noncomputable def f44l4 : Clean := ⟨[1, 4, 5], [1], [], [], []⟩
noncomputable def f44s5  : St := stOf [] [] []
noncomputable def f44l5 : Clean := ⟨[], [], [], [], []⟩
noncomputable def f44s6 (v2 : Bool) : St := stOf [(2, xB v2)] [] []
noncomputable def f44l6 : Clean := ⟨[2], [], [], [], []⟩
noncomputable def f44B : Nat → Option Clean := lookL [(0, f44l1), (4, f44l3), (3, f44l3), (2, f44l5), (1000000, f44l6)]
noncomputable abbrev f44i {ρ : Type} (N : Nat) (c : Code) (p : Plan) (σ : St) (K : KT ρ) : Option ρ := iCode f44G tab f44B N c p σ K
noncomputable def f44c (n : Nat) : Code := codeN 99 (bodyOf Tryd.f44) n
theorem f44t1 N v0 (K : KT ρ) : f44i N (f44c 2) .n (f44s0 v0) (joinK (some f44l1) K) =
  spec_l1Sizes.Z1 N v0 (fun v1_0 v1_1 v1_2 => K .nrm (f44s1 v1_0 v1_1 v1_2)) := by kernel_rfl
theorem f44t3 N v1_0 v1_1 v1_2 (K : KT ρ) : f44i N (f44c 5) .n (f44s1 v1_0 v1_1 v1_2) (joinK (some f44l1) K) =
  spec_l1Sizes.Z3 N v1_0 v1_1 v1_2 (fun v1_0 v1_1 v1_2 => K .nrm (f44s1 v1_0 v1_1 v1_2)) (fun v2 => K .ret (f44s6 v2)) := by kernel_rfl
theorem f44t6 N v1_0 v1_1 v1_2 (K : KT ρ) : f44i N (f44c 19) .n (f44s1 v1_0 v1_1 v1_2) (joinK (some f44l2) K) =
  spec_l1Sizes.Z6 N v1_0 v1_1 v1_2 (fun v3 v1_0 v1_1 v1_2 => K .nrm (f44s2 v3 v1_0 v1_1 v1_2)) := by kernel_rfl
theorem f44t9 N v3 v1_0 v1_1 v1_2 (K : KT ρ) : f44i N (f44c 75) .n (f44s2 v3 v1_0 v1_1 v1_2) (joinK (some f44l2) K) =
  spec_l1Sizes.Z9 N v3 v1_0 v1_1 v1_2 (fun v3 v1_0 v1_1 v1_2 => K .nrm (f44s2 v3 v1_0 v1_1 v1_2)) (fun v1_0 v1_1 v1_2 => K (.exit 0) (f44s1 v1_0 v1_1 v1_2)) (fun v2 => K .ret (f44s6 v2)) := by kernel_rfl
noncomputable def f44p8 : Plan := .mk none (some f44l2) .n .n
noncomputable abbrev f44w8 {ρ : Type} (N M : Nat) (σ : St) (K : KT ρ) : Option ρ := loopC (fun σ K => f44i N (f44c 75) .n σ K) f44l2 M σ K
theorem f44t8L {ρ : Type} (N : Nat) (K : KT ρ) : ∀ (M : Nat) (v3 v1_0 v1_1 : Int) (v1_2 : LI), f44w8 N M (f44s2 v3 v1_0 v1_1 v1_2) K =
  spec_l1Sizes.Z8L N (fun v1_0 v1_1 v1_2 => K (.exit 0) (f44s1 v1_0 v1_1 v1_2)) (fun v2 => K .ret (f44s6 v2)) M v3 v1_0 v1_1 v1_2
  | 0, _, _, _, _ => rfl
  | M + 1, v3, v1_0, v1_1, v1_2 => viaRoundS (fun k => spec_l1Sizes.Z9 N v3 v1_0 v1_1 v1_2 k (fun v1_0 v1_1 v1_2 => K (.exit 0) (f44s1 v1_0 v1_1 v1_2)) (fun v2 => K .ret (f44s6 v2))) (f44t9 N (K := seqK (fun σ => f44w8 N M σ K) K) ..) (fx4 fun v3 v1_0 v1_1 v1_2 => f44t8L N K M v3 v1_0 v1_1 v1_2) (by kernel_rfl)
theorem f44t8 N v3 v1_0 v1_1 v1_2 (K : KT ρ) : f44i N (f44c 43) f44p8 (f44s2 v3 v1_0 v1_1 v1_2) (joinK (some f44l1) K) =
  spec_l1Sizes.Z8 N v3 v1_0 v1_1 v1_2 (fun v1_0 v1_1 v1_2 => K (.exit 0) (f44s1 v1_0 v1_1 v1_2)) (fun v2 => K .ret (f44s6 v2)) :=
 viaLoopS (by kernel_rfl) (f44t8L N (joinK (some f44l1) K) N v3 v1_0 v1_1 v1_2) (by kernel_rfl)
noncomputable def f44p7 : Plan := .mk (some f44l1) none f44p8 .n
theorem f44t7 N v3 v1_0 v1_1 v1_2 (K : KT ρ) : f44i N (f44c 27) f44p7 (f44s2 v3 v1_0 v1_1 v1_2) (joinK (some f44l1) K) =
  spec_l1Sizes.Z7 N v3 v1_0 v1_1 v1_2 (fun v1_0 v1_1 v1_2 => K .nrm (f44s1 v1_0 v1_1 v1_2)) (fun v2 => K .ret (f44s6 v2)) :=
 viaBlockS (by kernel_rfl) (f44t8 N (K := blockK 0 (joinK (some f44l1) K)) ..) (by kernel_rfl)
noncomputable def f44p5 : Plan := .mk (some f44l2) none .n f44p7
theorem f44t5 N v1_0 v1_1 v1_2 (K : KT ρ) : f44i N (f44c 11) f44p5 (f44s1 v1_0 v1_1 v1_2) (joinK (some f44l1) K) =
  spec_l1Sizes.Z5 N v1_0 v1_1 v1_2 (fun v1_0 v1_1 v1_2 => K .nrm (f44s1 v1_0 v1_1 v1_2)) (fun v2 => K .ret (f44s6 v2)) :=
 viaSeqS (fun k => spec_l1Sizes.Z6 N v1_0 v1_1 v1_2 k) (by kernel_rfl) (f44t6 N (K := seqK (fun σ => f44i N (f44c 27) f44p7 σ (joinK (some f44l1) K)) (joinK (some f44l1) K)) ..) (fx4 fun v3 v1_0 v1_1 v1_2 => f44t7 N v3 v1_0 v1_1 v1_2 K) (by kernel_rfl)
theorem f44t12 N v1_0 v1_1 v1_2 (K : KT ρ) : f44i N (f44c 39) .n (f44s1 v1_0 v1_1 v1_2) (joinK (some f44l3) K) =
  spec_l1Sizes.Z12 N v1_0 v1_1 v1_2 (fun v4 v1_0 v1_1 v1_2 => K .nrm (f44s3 v4 v1_0 v1_1 v1_2)) := by kernel_rfl
theorem f44t16 N v4 v1_0 v1_1 v1_2 (K : KT ρ) : f44i N (f44c 279) .n (f44s3 v4 v1_0 v1_1 v1_2) (joinK (some f44l3) K) =
  spec_l1Sizes.Z16 N v4 v1_0 v1_1 v1_2 (fun v4 v1_0 v1_1 v1_2 => K .nrm (f44s3 v4 v1_0 v1_1 v1_2)) (K (.exit 2) f44s5) := by kernel_rfl
theorem f44t20 N v4 v1_0 v1_1 v1_2 (K : KT ρ) : f44i N (f44c 2199) .n (f44s3 v4 v1_0 v1_1 v1_2) (joinK (some f44l4) K) =
  spec_l1Sizes.Z20 N v4 v1_0 v1_1 v1_2 (fun v4 v5 v1_0 v1_1 v1_2 => K .nrm (f44s4 v4 v5 v1_0 v1_1 v1_2)) := by kernel_rfl
theorem f44t23 N v4 v5 v1_0 v1_1 v1_2 (K : KT ρ) : f44i N (f44c 9367) .n (f44s4 v4 v5 v1_0 v1_1 v1_2) (joinK (some f44l4) K) =
  spec_l1Sizes.Z23 N v4 v5 v1_0 v1_1 v1_2 (fun v4 v5 v1_0 v1_1 v1_2 => K .nrm (f44s4 v4 v5 v1_0 v1_1 v1_2)) (fun v4 v1_0 v1_1 v1_2 => K (.exit 4) (f44s3 v4 v1_0 v1_1 v1_2)) (fun v2 => K .ret (f44s6 v2)) := by kernel_rfl
noncomputable def f44p22 : Plan := .mk none (some f44l4) .n .n
noncomputable abbrev f44w22 {ρ : Type} (N M : Nat) (σ : St) (K : KT ρ) : Option ρ := loopC (fun σ K => f44i N (f44c 9367) .n σ K) f44l4 M σ K
theorem f44t22L {ρ : Type} (N : Nat) (K : KT ρ) : ∀ (M : Nat) (v4 v5 v1_0 v1_1 : Int) (v1_2 : LI), f44w22 N M (f44s4 v4 v5 v1_0 v1_1 v1_2) K =
  spec_l1Sizes.Z22L N (fun v4 v1_0 v1_1 v1_2 => K (.exit 4) (f44s3 v4 v1_0 v1_1 v1_2)) (fun v2 => K .ret (f44s6 v2)) M v4 v5 v1_0 v1_1 v1_2
  | 0, _, _, _, _, _ => rfl
  | M + 1, v4, v5, v1_0, v1_1, v1_2 => viaRoundS (fun k => spec_l1Sizes.Z23 N v4 v5 v1_0 v1_1 v1_2 k (fun v4 v1_0 v1_1 v1_2 => K (.exit 4) (f44s3 v4 v1_0 v1_1 v1_2)) (fun v2 => K .ret (f44s6 v2))) (f44t23 N (K := seqK (fun σ => f44w22 N M σ K) K) ..) (fx5 fun v4 v5 v1_0 v1_1 v1_2 => f44t22L N K M v4 v5 v1_0 v1_1 v1_2) (by kernel_rfl)
theorem f44t22 N v4 v5 v1_0 v1_1 v1_2 (K : KT ρ) : f44i N (f44c 5271) f44p22 (f44s4 v4 v5 v1_0 v1_1 v1_2) (joinK (some f44l3) K) =
  spec_l1Sizes.Z22 N v4 v5 v1_0 v1_1 v1_2 (fun v4 v1_0 v1_1 v1_2 => K (.exit 4) (f44s3 v4 v1_0 v1_1 v1_2)) (fun v2 => K .ret (f44s6 v2)) :=
 viaLoopS (by kernel_rfl) (f44t22L N (joinK (some f44l3) K) N v4 v5 v1_0 v1_1 v1_2) (by kernel_rfl)
noncomputable def f44p21 : Plan := .mk (some f44l3) none f44p22 .n
theorem f44t21 N v4 v5 v1_0 v1_1 v1_2 (K : KT ρ) : f44i N (f44c 3223) f44p21 (f44s4 v4 v5 v1_0 v1_1 v1_2) (joinK (some f44l3) K) =
  spec_l1Sizes.Z21 N v4 v5 v1_0 v1_1 v1_2 (fun v4 v1_0 v1_1 v1_2 => K .nrm (f44s3 v4 v1_0 v1_1 v1_2)) (fun v2 => K .ret (f44s6 v2)) :=
 viaBlockS (by kernel_rfl) (f44t22 N (K := blockK 4 (joinK (some f44l3) K)) ..) (by kernel_rfl)
noncomputable def f44p19 : Plan := .mk (some f44l4) none .n f44p21
theorem f44t19 N v4 v1_0 v1_1 v1_2 (K : KT ρ) : f44i N (f44c 1175) f44p19 (f44s3 v4 v1_0 v1_1 v1_2) (joinK (some f44l3) K) =
  spec_l1Sizes.Z19 N v4 v1_0 v1_1 v1_2 (fun v4 v1_0 v1_1 v1_2 => K .nrm (f44s3 v4 v1_0 v1_1 v1_2)) (fun v2 => K .ret (f44s6 v2)) :=
 viaSeqS (fun k => spec_l1Sizes.Z20 N v4 v1_0 v1_1 v1_2 k) (by kernel_rfl) (f44t20 N (K := seqK (fun σ => f44i N (f44c 3223) f44p21 σ (joinK (some f44l3) K)) (joinK (some f44l3) K)) ..) (fx5 fun v4 v5 v1_0 v1_1 v1_2 => f44t21 N v4 v5 v1_0 v1_1 v1_2 K) (by kernel_rfl)
noncomputable def f44p18 : Plan := .mk (some f44l3) none f44p19 .n
theorem f44t18 N v4 v1_0 v1_1 v1_2 (K : KT ρ) : f44i N (f44c 663) f44p18 (f44s3 v4 v1_0 v1_1 v1_2) (joinK (some f44l3) K) =
  spec_l1Sizes.Z18 N v4 v1_0 v1_1 v1_2 (fun v4 v1_0 v1_1 v1_2 => K .nrm (f44s3 v4 v1_0 v1_1 v1_2)) (fun v2 => K .ret (f44s6 v2)) :=
 viaBlockS (by kernel_rfl) (f44t19 N (K := blockK 3 (joinK (some f44l3) K)) ..) (by kernel_rfl)
theorem f44t24 N v4 v1_0 v1_1 v1_2 (K : KT ρ) : f44i N (f44c 919) .n (f44s3 v4 v1_0 v1_1 v1_2) (joinK (some f44l3) K) =
  spec_l1Sizes.Z24 N v4 v1_0 v1_1 v1_2 (fun v4 v1_0 v1_1 v1_2 => K .nrm (f44s3 v4 v1_0 v1_1 v1_2)) := by kernel_rfl
noncomputable def f44p17 : Plan := .mk (some f44l3) none f44p18 .n
theorem f44t17 N v4 v1_0 v1_1 v1_2 (K : KT ρ) : f44i N (f44c 407) f44p17 (f44s3 v4 v1_0 v1_1 v1_2) (joinK (some f44l3) K) =
  spec_l1Sizes.Z17 N v4 v1_0 v1_1 v1_2 (fun v4 v1_0 v1_1 v1_2 => K .nrm (f44s3 v4 v1_0 v1_1 v1_2)) (fun v2 => K .ret (f44s6 v2)) :=
 viaSeqS (fun k => spec_l1Sizes.Z18 N v4 v1_0 v1_1 v1_2 k (fun v2 => K .ret (f44s6 v2))) (by kernel_rfl) (f44t18 N (K := seqK (fun σ => f44i N (f44c 919) .n σ (joinK (some f44l3) K)) (joinK (some f44l3) K)) ..) (fx4 fun v4 v1_0 v1_1 v1_2 => f44t24 N v4 v1_0 v1_1 v1_2 K) (by kernel_rfl)
noncomputable def f44p15 : Plan := .mk (some f44l3) none .n f44p17
theorem f44t15 N v4 v1_0 v1_1 v1_2 (K : KT ρ) : f44i N (f44c 151) f44p15 (f44s3 v4 v1_0 v1_1 v1_2) (joinK (some f44l3) K) =
  spec_l1Sizes.Z15 N v4 v1_0 v1_1 v1_2 (fun v4 v1_0 v1_1 v1_2 => K .nrm (f44s3 v4 v1_0 v1_1 v1_2)) (K (.exit 2) f44s5) (fun v2 => K .ret (f44s6 v2)) :=
 viaSeqS (fun k => spec_l1Sizes.Z16 N v4 v1_0 v1_1 v1_2 k (K (.exit 2) f44s5)) (by kernel_rfl) (f44t16 N (K := seqK (fun σ => f44i N (f44c 407) f44p17 σ (joinK (some f44l3) K)) (joinK (some f44l3) K)) ..) (fx4 fun v4 v1_0 v1_1 v1_2 => f44t17 N v4 v1_0 v1_1 v1_2 K) (by kernel_rfl)
noncomputable def f44p14 : Plan := .mk none (some f44l3) f44p15 .n
noncomputable abbrev f44w14 {ρ : Type} (N M : Nat) (σ : St) (K : KT ρ) : Option ρ := loopC (fun σ K => f44i N (f44c 151) f44p15 σ K) f44l3 M σ K
theorem f44t14L {ρ : Type} (N : Nat) (K : KT ρ) : ∀ (M : Nat) (v4 v1_0 v1_1 : Int) (v1_2 : LI), f44w14 N M (f44s3 v4 v1_0 v1_1 v1_2) K =
  spec_l1Sizes.Z14L N (K (.exit 2) f44s5) (fun v2 => K .ret (f44s6 v2)) M v4 v1_0 v1_1 v1_2
  | 0, _, _, _, _ => rfl
  | M + 1, v4, v1_0, v1_1, v1_2 => viaRoundS (fun k => spec_l1Sizes.Z15 N v4 v1_0 v1_1 v1_2 k (K (.exit 2) f44s5) (fun v2 => K .ret (f44s6 v2))) (f44t15 N (K := seqK (fun σ => f44w14 N M σ K) K) ..) (fx4 fun v4 v1_0 v1_1 v1_2 => f44t14L N K M v4 v1_0 v1_1 v1_2) (by kernel_rfl)
theorem f44t14 N v4 v1_0 v1_1 v1_2 (K : KT ρ) : f44i N (f44c 87) f44p14 (f44s3 v4 v1_0 v1_1 v1_2) (joinK (some f44l5) K) =
  spec_l1Sizes.Z14 N v4 v1_0 v1_1 v1_2 (K (.exit 2) f44s5) (fun v2 => K .ret (f44s6 v2)) :=
 viaLoopS (by kernel_rfl) (f44t14L N (joinK (some f44l5) K) N v4 v1_0 v1_1 v1_2) (by kernel_rfl)
noncomputable def f44p13 : Plan := .mk (some f44l5) none f44p14 .n
theorem f44t13 N v4 v1_0 v1_1 v1_2 (K : KT ρ) : f44i N (f44c 55) f44p13 (f44s3 v4 v1_0 v1_1 v1_2) (joinK (some f44l5) K) =
  spec_l1Sizes.Z13 N v4 v1_0 v1_1 v1_2 (K .nrm f44s5) (fun v2 => K .ret (f44s6 v2)) :=
 viaBlockS (by kernel_rfl) (f44t14 N (K := blockK 2 (joinK (some f44l5) K)) ..) (by kernel_rfl)
noncomputable def f44p11 : Plan := .mk (some f44l3) none .n f44p13
theorem f44t11 N v1_0 v1_1 v1_2 (K : KT ρ) : f44i N (f44c 23) f44p11 (f44s1 v1_0 v1_1 v1_2) (joinK (some f44l5) K) =
  spec_l1Sizes.Z11 N v1_0 v1_1 v1_2 (K .nrm f44s5) (fun v2 => K .ret (f44s6 v2)) :=
 viaSeqS (fun k => spec_l1Sizes.Z12 N v1_0 v1_1 v1_2 k) (by kernel_rfl) (f44t12 N (K := seqK (fun σ => f44i N (f44c 55) f44p13 σ (joinK (some f44l5) K)) (joinK (some f44l5) K)) ..) (fx4 fun v4 v1_0 v1_1 v1_2 => f44t13 N v4 v1_0 v1_1 v1_2 K) (by kernel_rfl)
theorem f44t25 N  (K : KT ρ) : f44i N (f44c 31) .n f44s5 (joinK (some f44lE) K) =
  spec_l1Sizes.Z25 N (fun v2 => K .ret (f44s6 v2)) := by kernel_rfl
noncomputable def f44p10 : Plan := .mk (some f44l5) none f44p11 .n
theorem f44t10 N v1_0 v1_1 v1_2 (K : KT ρ) : f44i N (f44c 15) f44p10 (f44s1 v1_0 v1_1 v1_2) (joinK (some f44lE) K) =
  spec_l1Sizes.Z10 N v1_0 v1_1 v1_2 (fun v2 => K .ret (f44s6 v2)) :=
 viaSeqS (fun k => spec_l1Sizes.Z11 N v1_0 v1_1 v1_2 k (fun v2 => K .ret (f44s6 v2))) (by kernel_rfl) (f44t11 N (K := seqK (fun σ => f44i N (f44c 31) .n σ (joinK (some f44lE) K)) (joinK (some f44lE) K)) ..) (f44t25 N K) (by kernel_rfl)
noncomputable def f44p4 : Plan := .mk (some f44l1) none f44p5 f44p10
theorem f44t4 N v1_0 v1_1 v1_2 (K : KT ρ) : f44i N (f44c 7) f44p4 (f44s1 v1_0 v1_1 v1_2) (joinK (some f44lE) K) =
  spec_l1Sizes.Z4 N v1_0 v1_1 v1_2 (fun v2 => K .ret (f44s6 v2)) :=
 viaSeqS (fun k => spec_l1Sizes.Z5 N v1_0 v1_1 v1_2 k (fun v2 => K .ret (f44s6 v2))) (by kernel_rfl) (f44t5 N (K := seqK (fun σ => f44i N (f44c 15) f44p10 σ (joinK (some f44lE) K)) (joinK (some f44lE) K)) ..) (fx3 fun v1_0 v1_1 v1_2 => f44t10 N v1_0 v1_1 v1_2 K) (by kernel_rfl)
noncomputable def f44p2 : Plan := .mk (some f44l1) none .n f44p4
theorem f44t2 N v1_0 v1_1 v1_2 (K : KT ρ) : f44i N (f44c 3) f44p2 (f44s1 v1_0 v1_1 v1_2) (joinK (some f44lE) K) =
  spec_l1Sizes.Z2 N v1_0 v1_1 v1_2 (fun v2 => K .ret (f44s6 v2)) :=
 viaSeqS (fun k => spec_l1Sizes.Z3 N v1_0 v1_1 v1_2 k (fun v2 => K .ret (f44s6 v2))) (by kernel_rfl) (f44t3 N (K := seqK (fun σ => f44i N (f44c 7) f44p4 σ (joinK (some f44lE) K)) (joinK (some f44lE) K)) ..) (fx3 fun v1_0 v1_1 v1_2 => f44t4 N v1_0 v1_1 v1_2 K) (by kernel_rfl)
noncomputable def f44p0 : Plan := .mk (some f44l1) none .n f44p2
theorem f44t0 N v0 (K : KT ρ) : f44i N (f44c 1) f44p0 (f44s0 v0) (joinK (some f44lE) K) =
  spec_l1Sizes.Z0 N v0 (fun v2 => K .ret (f44s6 v2)) :=
 viaSeqS (fun k => spec_l1Sizes.Z1 N v0 k) (by kernel_rfl) (f44t1 N (K := seqK (fun σ => f44i N (f44c 3) f44p2 σ (joinK (some f44lE) K)) (joinK (some f44lE) K)) ..) (fx3 fun v1_0 v1_1 v1_2 => f44t2 N v1_0 v1_1 v1_2 K) (by kernel_rfl)
theorem f44m (N : Nat) (v0 : MT) : f44i N (f44c 1) f44p0 (f44s0 v0) (joinK (some f44lE) (finK tab f44sig Tryd.f44.results.toList)) = spec_l1Sizes.Z0 N v0 (fun v2 => some ((), (v2, ()))) :=
  (f44t0 N v0 (finK tab f44sig Tryd.f44.results.toList)).trans (by kernel_rfl)
theorem f44ok (h : spec_l1Sizes.Spec) : EntryOk Tryd.prog 44 e44 :=
  entry_of_code (sig := f44sig) (c := (f44c 1)) (pl := f44p0) (je := (some f44lE)) (B := f44B) Tryd.func44 (by kernel_rfl) (by kernel_rfl) (by kernel_rfl) tabOk f44GOk (by kernel_rfl) (by kernel_rfl) (by kernel_rfl) (by kernel_rfl) fun X hb hp => by
    obtain ⟨v0, _⟩ := X
    obtain ⟨N, h⟩ := h v0 hb.1
    exact ⟨N, (f44m N v0).trans (h N (Nat.le_refl N))⟩
theorem e44ok : EntryOk Tryd.prog 44 e44 := f44ok spec_l1Sizes.ok
end Go.Fw
namespace Go.Fw
variable {ρ : Type}
open Go.Proofs
noncomputable def f66sig : Sig := ⟨[⟨.sl 3 (.int .i64), false, false⟩, ⟨.int .i64, false, false⟩], [⟨.bool, false, false⟩]⟩
noncomputable def e66 : Entry := ⟨f66sig, none, fun X => ((), ((spec_l1Has.g X.1 X.2.1), ()))⟩
noncomputable def f66G : Gm := emptyG
theorem f66GOk : GOk Tryd.prog f66G := GOk.nil
noncomputable def f66lE : Clean := ⟨[], [], [], [], []⟩
noncomputable def f66s0 (v0 : LI) (v1 : Int) : St := initSt f66sig.ps (v0, (v1, ()))
noncomputable def f66s1 (v0 : LI) (v1 : Int) : St := stOf [(0, .c (.sn 3 tI v0 none)), (1, xi v1)] [] []
noncomputable def f66l1 : Clean := ⟨[0, 1], [], [], [], []⟩
noncomputable def f66s2 (v0 : LI) (v1 v5 : Int) : St := stOf [(0, .c (.sn 3 tI v0 none)), (1, xi v1), (5, xi v5)] [] []
noncomputable def f66l2 : Clean := ⟨[0, 1, 5], [], [], [], []⟩
noncomputable def f66s3  : St := stOf [] [] []
noncomputable def f66l3 : Clean := ⟨[], [], [], [], []⟩
noncomputable def f66s4 (v4 : Bool) : St := stOf [(4, xB v4)] [] []
noncomputable def f66l4 : Clean := ⟨[4], [], [], [], []⟩
noncomputable def f66B : Nat → Option Clean := lookL [(0, f66l3), (1000000, f66l4)]
noncomputable abbrev f66i {ρ : Type} (N : Nat) (c : Code) (p : Plan) (σ : St) (K : KT ρ) : Option ρ := iCode f66G tab f66B N c p σ K
noncomputable def f66c (n : Nat) : Code := codeN 99 (bodyOf Tryd.f66) n
theorem f66t1 N v0 v1 (K : KT ρ) : f66i N (f66c 2) .n (f66s0 v0 v1) (joinK (some f66l1) K) =
  spec_l1Has.Z1 N v0 v1 (fun v0 v1 => K .nrm (f66s1 v0 v1)) := by kernel_rfl
theorem f66t4 N v0 v1 (K : KT ρ) : f66i N (f66c 9) .n (f66s1 v0 v1) (joinK (some f66l2) K) =
  spec_l1Has.Z4 N v0 v1 (fun v0 v1 v5 => K .nrm (f66s2 v0 v1 v5)) := by kernel_rfl
theorem f66t7 N v0 v1 v5 (K : KT ρ) : f66i N (f66c 37) .n (f66s2 v0 v1 v5) (joinK (some f66l2) K) =
  spec_l1Has.Z7 N v0 v1 v5 (fun v0 v1 v5 => K .nrm (f66s2 v0 v1 v5)) (K (.exit 0) f66s3) (fun v4 => K .ret (f66s4 v4)) := by kernel_rfl
noncomputable def f66p6 : Plan := .mk none (some f66l2) .n .n
noncomputable abbrev f66w6 {ρ : Type} (N M : Nat) (σ : St) (K : KT ρ) : Option ρ := loopC (fun σ K => f66i N (f66c 37) .n σ K) f66l2 M σ K
theorem f66t6L {ρ : Type} (N : Nat) (K : KT ρ) : ∀ (M : Nat) (v0 : LI) (v1 v5 : Int), f66w6 N M (f66s2 v0 v1 v5) K =
  spec_l1Has.Z6L N (K (.exit 0) f66s3) (fun v4 => K .ret (f66s4 v4)) M v0 v1 v5
  | 0, _, _, _ => rfl
  | M + 1, v0, v1, v5 => viaRoundS (fun k => spec_l1Has.Z7 N v0 v1 v5 k (K (.exit 0) f66s3) (fun v4 => K .ret (f66s4 v4))) (f66t7 N (K := seqK (fun σ => f66w6 N M σ K) K) ..) (fx3 fun v0 v1 v5 => f66t6L N K M v0 v1 v5) (by kernel_rfl)
theorem f66t6 N v0 v1 v5 (K : KT ρ) : f66i N (f66c 21) f66p6 (f66s2 v0 v1 v5) (joinK (some f66l3) K) =
  spec_l1Has.Z6 N v0 v1 v5 (K (.exit 0) f66s3) (fun v4 => K .ret (f66s4 v4)) :=
 viaLoopS (by kernel_rfl) (f66t6L N (joinK (some f66l3) K) N v0 v1 v5) (by kernel_rfl)
noncomputable def f66p5 : Plan := .mk (some f66l3) none f66p6 .n
theorem f66t5 N v0 v1 v5 (K : KT ρ) : f66i N (f66c 13) f66p5 (f66s2 v0 v1 v5) (joinK (some f66l3) K) =
  spec_l1Has.Z5 N v0 v1 v5 (K .nrm f66s3) (fun v4 => K .ret (f66s4 v4)) :=
 viaBlockS (by kernel_rfl) (f66t6 N (K := blockK 0 (joinK (some f66l3) K)) ..) (by kernel_rfl)
noncomputable def f66p3 : Plan := .mk (some f66l2) none .n f66p5
theorem f66t3 N v0 v1 (K : KT ρ) : f66i N (f66c 5) f66p3 (f66s1 v0 v1) (joinK (some f66l3) K) =
  spec_l1Has.Z3 N v0 v1 (K .nrm f66s3) (fun v4 => K .ret (f66s4 v4)) :=
 viaSeqS (fun k => spec_l1Has.Z4 N v0 v1 k) (by kernel_rfl) (f66t4 N (K := seqK (fun σ => f66i N (f66c 13) f66p5 σ (joinK (some f66l3) K)) (joinK (some f66l3) K)) ..) (fx3 fun v0 v1 v5 => f66t5 N v0 v1 v5 K) (by kernel_rfl)
theorem f66t8 N  (K : KT ρ) : f66i N (f66c 7) .n f66s3 (joinK (some f66lE) K) =
  spec_l1Has.Z8 N (fun v4 => K .ret (f66s4 v4)) := by kernel_rfl
noncomputable def f66p2 : Plan := .mk (some f66l3) none f66p3 .n
theorem f66t2 N v0 v1 (K : KT ρ) : f66i N (f66c 3) f66p2 (f66s1 v0 v1) (joinK (some f66lE) K) =
  spec_l1Has.Z2 N v0 v1 (fun v4 => K .ret (f66s4 v4)) :=
 viaSeqS (fun k => spec_l1Has.Z3 N v0 v1 k (fun v4 => K .ret (f66s4 v4))) (by kernel_rfl) (f66t3 N (K := seqK (fun σ => f66i N (f66c 7) .n σ (joinK (some f66lE) K)) (joinK (some f66lE) K)) ..) (f66t8 N K) (by kernel_rfl)
noncomputable def f66p0 : Plan := .mk (some f66l1) none .n f66p2
theorem f66t0 N v0 v1 (K : KT ρ) : f66i N (f66c 1) f66p0 (f66s0 v0 v1) (joinK (some f66lE) K) =
  spec_l1Has.Z0 N v0 v1 (fun v4 => K .ret (f66s4 v4)) :=
 viaSeqS (fun k => spec_l1Has.Z1 N v0 v1 k) (by kernel_rfl) (f66t1 N (K := seqK (fun σ => f66i N (f66c 3) f66p2 σ (joinK (some f66lE) K)) (joinK (some f66lE) K)) ..) (fx2 fun v0 v1 => f66t2 N v0 v1 K) (by kernel_rfl)
theorem f66m (N : Nat) (v0 : LI) (v1 : Int) : f66i N (f66c 1) f66p0 (f66s0 v0 v1) (joinK (some f66lE) (finK tab f66sig Tryd.f66.results.toList)) = spec_l1Has.Z0 N v0 v1 (fun v4 => some ((), (v4, ()))) :=
  (f66t0 N v0 v1 (finK tab f66sig Tryd.f66.results.toList)).trans (by kernel_rfl)
theorem f66ok (h : spec_l1Has.Spec) : EntryOk Tryd.prog 66 e66 :=
  entry_of_code (sig := f66sig) (c := (f66c 1)) (pl := f66p0) (je := (some f66lE)) (B := f66B) Tryd.func66 (by kernel_rfl) (by kernel_rfl) (by kernel_rfl) tabOk f66GOk (by kernel_rfl) (by kernel_rfl) (by kernel_rfl) (by kernel_rfl) fun X hb hp => by
    obtain ⟨v0, v1, _⟩ := X
    obtain ⟨N, h⟩ := h v0 v1 hb.1
    exact ⟨N, (f66m N v0 v1).trans (h N (Nat.le_refl N))⟩
theorem e66ok : EntryOk Tryd.prog 66 e66 := f66ok spec_l1Has.ok
end Go.Fw
namespace Go.Fw
variable {ρ : Type}
open Go.Proofs
noncomputable def f55sig : Sig := ⟨[⟨.pair (.int .i64) (.pair (.int .i64) (.sl 3 (.int .i64))), true, false⟩, ⟨.int .i64, false, false⟩], [⟨.sl 3 (.int .i64), false, false⟩, ⟨.sl 3 (.int .i64), false, false⟩]⟩
noncomputable def e55 : Entry := ⟨f55sig, (some fun X => spec_l1Piece.P X.1 X.2.1), fun X => ((), ((spec_l1Piece.g X.1 X.2.1).1, ((spec_l1Piece.g X.1 X.2.1).2, ())))⟩
noncomputable def f55G : Gm := addG (addG emptyG 54 e54) 66 e66
theorem f55GOk : GOk Tryd.prog f55G := ((GOk.nil).add e54ok (by kernel_rfl)).add e66ok (by kernel_rfl)
noncomputable def f55lE : Clean := ⟨[], [], [], [], []⟩
noncomputable def f55s0 (v0 : MT) (v1 : Int) : St := initSt f55sig.ps (v0, (v1, ()))
noncomputable def f55s1 (v1 v2_0 v2_1 : Int) (v2_2 : LI) : St := stOf [(1, xi v1), (2, xb 2)] [(2, (38, [yi v2_0, yi v2_1, .sn 3 tI v2_2 none]))] []
noncomputable def f55l1 : Clean := ⟨[1, 2], [2], [], [], []⟩
noncomputable def f55s2 (v6 : LI) (v1 v2_0 v2_1 : Int) (v2_2 : LI) : St := stOf [(1, xi v1), (2, xb 2), (6, xo 1000384)] [(2, (38, [yi v2_0, yi v2_1, .sn 3 tI v2_2 none]))] [(1000384, (⟨3, .int .i64, v6, true, false⟩ : Row))]
noncomputable def f55l2 : Clean := ⟨[1, 2, 6], [2], [], [], [(⟨false, 6, 0⟩, 1000384)]⟩
noncomputable def f55s3 (v6 v7 : LI) (v2_0 v2_1 : Int) (v2_2 : LI) : St := stOf [(2, xb 2), (6, xo 1000384), (7, xo 1000448)] [(2, (38, [yi v2_0, yi v2_1, .sn 3 tI v2_2 none]))] [(1000384, (⟨3, .int .i64, v6, true, false⟩ : Row)), (1000448, (⟨3, .int .i64, v7, true, false⟩ : Row))]
noncomputable def f55l3 : Clean := ⟨[2, 6, 7], [2], [], [], [(⟨false, 6, 0⟩, 1000384), (⟨false, 7, 0⟩, 1000448)]⟩
noncomputable def f55s4 (v6 v7 : LI) (v8 v2_0 v2_1 : Int) (v2_2 : LI) : St := stOf [(2, xb 2), (6, xo 1000384), (7, xo 1000448), (8, xi v8)] [(2, (38, [yi v2_0, yi v2_1, .sn 3 tI v2_2 none]))] [(1000384, (⟨3, .int .i64, v6, true, false⟩ : Row)), (1000448, (⟨3, .int .i64, v7, true, false⟩ : Row))]
noncomputable def f55l4 : Clean := ⟨[2, 6, 7, 8], [2], [], [], [(⟨false, 6, 0⟩, 1000384), (⟨false, 7, 0⟩, 1000448)]⟩
noncomputable def f55s5 (v6 v7 : LI) (v8 v9 v2_0 v2_1 : Int) (v2_2 : LI) : St := stOf [(2, xb 2), (6, xo 1000384), (7, xo 1000448), (8, xi v8), (9, xi v9)] [(2, (38, [yi v2_0, yi v2_1, .sn 3 tI v2_2 none]))] [(1000384, (⟨3, .int .i64, v6, true, false⟩ : Row)), (1000448, (⟨3, .int .i64, v7, true, false⟩ : Row))]
noncomputable def f55l5 : Clean := ⟨[2, 6, 7, 8, 9], [2], [], [], [(⟨false, 6, 0⟩, 1000384), (⟨false, 7, 0⟩, 1000448)]⟩
noncomputable def f55s6 (v6 v7 : LI) : St := stOf [(6, xo 1000384), (7, xo 1000448)] [] [(1000384, (⟨3, .int .i64, v6, true, false⟩ : Row)), (1000448, (⟨3, .int .i64, v7, true, false⟩ : Row))]
noncomputable def f55l6 : Clean := ⟨[6, 7], [], [], [], [(⟨false, 6, 0⟩, 1000384), (⟨false, 7, 0⟩, 1000448)]⟩
noncomputable def f55s7 (v4 v5 : LI) : St := stOf [(4, xo 1000256), (5, xo 1000320)] [] [(1000256, (⟨3, .int .i64, v4, true, false⟩ : Row)), (1000320, (⟨3, .int .i64, v5, true, false⟩ : Row))]
noncomputable def f55l7 : Clean := ⟨[4, 5], [], [], [], [(⟨false, 4, 0⟩, 1000256), (⟨false, 5, 0⟩, 1000320)]⟩
noncomputable def f55B : Nat → Option Clean := lookL [(2, f55l4), (1, f55l4), (0, f55l6), (1000000, f55l7)]
noncomputable abbrev f55i {ρ : Type} (N : Nat) (c : Code) (p : Plan) (σ : St) (K : KT ρ) : Option ρ := iCode f55G tab f55B N c p σ K
noncomputable def f55c (n : Nat) : Code := codeN 99 (bodyOf Tryd.f55) n
theorem f55t1 N v0 v1 (K : KT ρ) : f55i N (f55c 2) .n (f55s0 v0 v1) (joinK (some f55l1) K) =
  spec_l1Piece.Z1 N v0 v1 (fun v1 v2_0 v2_1 v2_2 => K .nrm (f55s1 v1 v2_0 v2_1 v2_2)) := by kernel_rfl
theorem f55t3 N v1 v2_0 v2_1 v2_2 (K : KT ρ) : f55i N (f55c 5) .n (f55s1 v1 v2_0 v2_1 v2_2) (joinK (some f55l2) K) =
  spec_l1Piece.Z3 N v1 v2_0 v2_1 v2_2 (fun v6 v1 v2_0 v2_1 v2_2 => K .nrm (f55s2 v6 v1 v2_0 v2_1 v2_2)) := by kernel_rfl
theorem f55t5 N v6 v1 v2_0 v2_1 v2_2 (K : KT ρ) : f55i N (f55c 11) .n (f55s2 v6 v1 v2_0 v2_1 v2_2) (joinK (some f55l3) K) =
  spec_l1Piece.Z5 N v6 v1 v2_0 v2_1 v2_2 (fun v6 v7 v2_0 v2_1 v2_2 => K .nrm (f55s3 v6 v7 v2_0 v2_1 v2_2)) := by kernel_rfl
theorem f55t8 N v6 v7 v2_0 v2_1 v2_2 (K : KT ρ) : f55i N (f55c 39) .n (f55s3 v6 v7 v2_0 v2_1 v2_2) (joinK (some f55l4) K) =
  spec_l1Piece.Z8 N v6 v7 v2_0 v2_1 v2_2 (fun v6 v7 v8 v2_0 v2_1 v2_2 => K .nrm (f55s4 v6 v7 v8 v2_0 v2_1 v2_2)) := by kernel_rfl
theorem f55t12 N v6 v7 v8 v2_0 v2_1 v2_2 (K : KT ρ) : f55i N (f55c 279) .n (f55s4 v6 v7 v8 v2_0 v2_1 v2_2) (joinK (some f55l4) K) =
  spec_l1Piece.Z12 N v6 v7 v8 v2_0 v2_1 v2_2 (fun v6 v7 v8 v2_0 v2_1 v2_2 => K .nrm (f55s4 v6 v7 v8 v2_0 v2_1 v2_2)) (fun v6 v7 => K (.exit 0) (f55s6 v6 v7)) := by kernel_rfl
theorem f55t16 N v6 v7 v8 v2_0 v2_1 v2_2 (K : KT ρ) : f55i N (f55c 2199) .n (f55s4 v6 v7 v8 v2_0 v2_1 v2_2) (joinK (some f55l5) K) =
  spec_l1Piece.Z16 N v6 v7 v8 v2_0 v2_1 v2_2 (fun v6 v7 v8 v9 v2_0 v2_1 v2_2 => K .nrm (f55s5 v6 v7 v8 v9 v2_0 v2_1 v2_2)) := by kernel_rfl
theorem f55t19 N v6 v7 v8 v9 v2_0 v2_1 v2_2 (K : KT ρ) : f55i N (f55c 9367) .n (f55s5 v6 v7 v8 v9 v2_0 v2_1 v2_2) (joinK (some f55l5) K) =
  spec_l1Piece.Z19 N v6 v7 v8 v9 v2_0 v2_1 v2_2 (fun v6 v7 v8 v9 v2_0 v2_1 v2_2 => K .nrm (f55s5 v6 v7 v8 v9 v2_0 v2_1 v2_2)) (fun v6 v7 v8 v2_0 v2_1 v2_2 => K (.exit 2) (f55s4 v6 v7 v8 v2_0 v2_1 v2_2)) := by kernel_rfl
noncomputable def f55p18 : Plan := .mk none (some f55l5) .n .n
noncomputable abbrev f55w18 {ρ : Type} (N M : Nat) (σ : St) (K : KT ρ) : Option ρ := loopC (fun σ K => f55i N (f55c 9367) .n σ K) f55l5 M σ K
theorem f55t18L {ρ : Type} (N : Nat) (K : KT ρ) : ∀ (M : Nat) (v6 v7 : LI) (v8 v9 v2_0 v2_1 : Int) (v2_2 : LI), f55w18 N M (f55s5 v6 v7 v8 v9 v2_0 v2_1 v2_2) K =
  spec_l1Piece.Z18L N (fun v6 v7 v8 v2_0 v2_1 v2_2 => K (.exit 2) (f55s4 v6 v7 v8 v2_0 v2_1 v2_2)) M v6 v7 v8 v9 v2_0 v2_1 v2_2
  | 0, _, _, _, _, _, _, _ => rfl
  | M + 1, v6, v7, v8, v9, v2_0, v2_1, v2_2 => viaRoundS (fun k => spec_l1Piece.Z19 N v6 v7 v8 v9 v2_0 v2_1 v2_2 k (fun v6 v7 v8 v2_0 v2_1 v2_2 => K (.exit 2) (f55s4 v6 v7 v8 v2_0 v2_1 v2_2))) (f55t19 N (K := seqK (fun σ => f55w18 N M σ K) K) ..) (fx7 fun v6 v7 v8 v9 v2_0 v2_1 v2_2 => f55t18L N K M v6 v7 v8 v9 v2_0 v2_1 v2_2) (by kernel_rfl)
theorem f55t18 N v6 v7 v8 v9 v2_0 v2_1 v2_2 (K : KT ρ) : f55i N (f55c 5271) f55p18 (f55s5 v6 v7 v8 v9 v2_0 v2_1 v2_2) (joinK (some f55l4) K) =
  spec_l1Piece.Z18 N v6 v7 v8 v9 v2_0 v2_1 v2_2 (fun v6 v7 v8 v2_0 v2_1 v2_2 => K (.exit 2) (f55s4 v6 v7 v8 v2_0 v2_1 v2_2)) :=
 viaLoopS (by kernel_rfl) (f55t18L N (joinK (some f55l4) K) N v6 v7 v8 v9 v2_0 v2_1 v2_2) (by kernel_rfl)
noncomputable def f55p17 : Plan := .mk (some f55l4) none f55p18 .n
theorem f55t17 N v6 v7 v8 v9 v2_0 v2_1 v2_2 (K : KT ρ) : f55i N (f55c 3223) f55p17 (f55s5 v6 v7 v8 v9 v2_0 v2_1 v2_2) (joinK (some f55l4) K) =
  spec_l1Piece.Z17 N v6 v7 v8 v9 v2_0 v2_1 v2_2 (fun v6 v7 v8 v2_0 v2_1 v2_2 => K .nrm (f55s4 v6 v7 v8 v2_0 v2_1 v2_2)) :=
 viaBlockS (by kernel_rfl) (f55t18 N (K := blockK 2 (joinK (some f55l4) K)) ..) (by kernel_rfl)
noncomputable def f55p15 : Plan := .mk (some f55l5) none .n f55p17
theorem f55t15 N v6 v7 v8 v2_0 v2_1 v2_2 (K : KT ρ) : f55i N (f55c 1175) f55p15 (f55s4 v6 v7 v8 v2_0 v2_1 v2_2) (joinK (some f55l4) K) =
  spec_l1Piece.Z15 N v6 v7 v8 v2_0 v2_1 v2_2 (fun v6 v7 v8 v2_0 v2_1 v2_2 => K .nrm (f55s4 v6 v7 v8 v2_0 v2_1 v2_2)) :=
 viaSeqS (fun k => spec_l1Piece.Z16 N v6 v7 v8 v2_0 v2_1 v2_2 k) (by kernel_rfl) (f55t16 N (K := seqK (fun σ => f55i N (f55c 3223) f55p17 σ (joinK (some f55l4) K)) (joinK (some f55l4) K)) ..) (fx7 fun v6 v7 v8 v9 v2_0 v2_1 v2_2 => f55t17 N v6 v7 v8 v9 v2_0 v2_1 v2_2 K) (by kernel_rfl)
noncomputable def f55p14 : Plan := .mk (some f55l4) none f55p15 .n
theorem f55t14 N v6 v7 v8 v2_0 v2_1 v2_2 (K : KT ρ) : f55i N (f55c 663) f55p14 (f55s4 v6 v7 v8 v2_0 v2_1 v2_2) (joinK (some f55l4) K) =
  spec_l1Piece.Z14 N v6 v7 v8 v2_0 v2_1 v2_2 (fun v6 v7 v8 v2_0 v2_1 v2_2 => K .nrm (f55s4 v6 v7 v8 v2_0 v2_1 v2_2)) :=
 viaBlockS (by kernel_rfl) (f55t15 N (K := blockK 1 (joinK (some f55l4) K)) ..) (by kernel_rfl)
theorem f55t20 N v6 v7 v8 v2_0 v2_1 v2_2 (K : KT ρ) : f55i N (f55c 919) .n (f55s4 v6 v7 v8 v2_0 v2_1 v2_2) (joinK (some f55l4) K) =
  spec_l1Piece.Z20 N v6 v7 v8 v2_0 v2_1 v2_2 (fun v6 v7 v8 v2_0 v2_1 v2_2 => K .nrm (f55s4 v6 v7 v8 v2_0 v2_1 v2_2)) := by kernel_rfl
noncomputable def f55p13 : Plan := .mk (some f55l4) none f55p14 .n
theorem f55t13 N v6 v7 v8 v2_0 v2_1 v2_2 (K : KT ρ) : f55i N (f55c 407) f55p13 (f55s4 v6 v7 v8 v2_0 v2_1 v2_2) (joinK (some f55l4) K) =
  spec_l1Piece.Z13 N v6 v7 v8 v2_0 v2_1 v2_2 (fun v6 v7 v8 v2_0 v2_1 v2_2 => K .nrm (f55s4 v6 v7 v8 v2_0 v2_1 v2_2)) :=
 viaSeqS (fun k => spec_l1Piece.Z14 N v6 v7 v8 v2_0 v2_1 v2_2 k) (by kernel_rfl) (f55t14 N (K := seqK (fun σ => f55i N (f55c 919) .n σ (joinK (some f55l4) K)) (joinK (some f55l4) K)) ..) (fx6 fun v6 v7 v8 v2_0 v2_1 v2_2 => f55t20 N v6 v7 v8 v2_0 v2_1 v2_2 K) (by kernel_rfl)
noncomputable def f55p11 : Plan := .mk (some f55l4) none .n f55p13
theorem f55t11 N v6 v7 v8 v2_0 v2_1 v2_2 (K : KT ρ) : f55i N (f55c 151) f55p11 (f55s4 v6 v7 v8 v2_0 v2_1 v2_2) (joinK (some f55l4) K) =
  spec_l1Piece.Z11 N v6 v7 v8 v2_0 v2_1 v2_2 (fun v6 v7 v8 v2_0 v2_1 v2_2 => K .nrm (f55s4 v6 v7 v8 v2_0 v2_1 v2_2)) (fun v6 v7 => K (.exit 0) (f55s6 v6 v7)) :=
 viaSeqS (fun k => spec_l1Piece.Z12 N v6 v7 v8 v2_0 v2_1 v2_2 k (fun v6 v7 => K (.exit 0) (f55s6 v6 v7))) (by kernel_rfl) (f55t12 N (K := seqK (fun σ => f55i N (f55c 407) f55p13 σ (joinK (some f55l4) K)) (joinK (some f55l4) K)) ..) (fx6 fun v6 v7 v8 v2_0 v2_1 v2_2 => f55t13 N v6 v7 v8 v2_0 v2_1 v2_2 K) (by kernel_rfl)
noncomputable def f55p10 : Plan := .mk none (some f55l4) f55p11 .n
noncomputable abbrev f55w10 {ρ : Type} (N M : Nat) (σ : St) (K : KT ρ) : Option ρ := loopC (fun σ K => f55i N (f55c 151) f55p11 σ K) f55l4 M σ K
theorem f55t10L {ρ : Type} (N : Nat) (K : KT ρ) : ∀ (M : Nat) (v6 v7 : LI) (v8 v2_0 v2_1 : Int) (v2_2 : LI), f55w10 N M (f55s4 v6 v7 v8 v2_0 v2_1 v2_2) K =
  spec_l1Piece.Z10L N (fun v6 v7 => K (.exit 0) (f55s6 v6 v7)) M v6 v7 v8 v2_0 v2_1 v2_2
  | 0, _, _, _, _, _, _ => rfl
  | M + 1, v6, v7, v8, v2_0, v2_1, v2_2 => viaRoundS (fun k => spec_l1Piece.Z11 N v6 v7 v8 v2_0 v2_1 v2_2 k (fun v6 v7 => K (.exit 0) (f55s6 v6 v7))) (f55t11 N (K := seqK (fun σ => f55w10 N M σ K) K) ..) (fx6 fun v6 v7 v8 v2_0 v2_1 v2_2 => f55t10L N K M v6 v7 v8 v2_0 v2_1 v2_2) (by kernel_rfl)
theorem f55t10 N v6 v7 v8 v2_0 v2_1 v2_2 (K : KT ρ) : f55i N (f55c 87) f55p10 (f55s4 v6 v7 v8 v2_0 v2_1 v2_2) (joinK (some f55l6) K) =
  spec_l1Piece.Z10 N v6 v7 v8 v2_0 v2_1 v2_2 (fun v6 v7 => K (.exit 0) (f55s6 v6 v7)) :=
 viaLoopS (by kernel_rfl) (f55t10L N (joinK (some f55l6) K) N v6 v7 v8 v2_0 v2_1 v2_2) (by kernel_rfl)
noncomputable def f55p9 : Plan := .mk (some f55l6) none f55p10 .n
theorem f55t9 N v6 v7 v8 v2_0 v2_1 v2_2 (K : KT ρ) : f55i N (f55c 55) f55p9 (f55s4 v6 v7 v8 v2_0 v2_1 v2_2) (joinK (some f55l6) K) =
  spec_l1Piece.Z9 N v6 v7 v8 v2_0 v2_1 v2_2 (fun v6 v7 => K .nrm (f55s6 v6 v7)) :=
 viaBlockS (by kernel_rfl) (f55t10 N (K := blockK 0 (joinK (some f55l6) K)) ..) (by kernel_rfl)
noncomputable def f55p7 : Plan := .mk (some f55l4) none .n f55p9
theorem f55t7 N v6 v7 v2_0 v2_1 v2_2 (K : KT ρ) : f55i N (f55c 23) f55p7 (f55s3 v6 v7 v2_0 v2_1 v2_2) (joinK (some f55l6) K) =
  spec_l1Piece.Z7 N v6 v7 v2_0 v2_1 v2_2 (fun v6 v7 => K .nrm (f55s6 v6 v7)) :=
 viaSeqS (fun k => spec_l1Piece.Z8 N v6 v7 v2_0 v2_1 v2_2 k) (by kernel_rfl) (f55t8 N (K := seqK (fun σ => f55i N (f55c 55) f55p9 σ (joinK (some f55l6) K)) (joinK (some f55l6) K)) ..) (fx6 fun v6 v7 v8 v2_0 v2_1 v2_2 => f55t9 N v6 v7 v8 v2_0 v2_1 v2_2 K) (by kernel_rfl)
theorem f55t21 N v6 v7 (K : KT ρ) : f55i N (f55c 31) .n (f55s6 v6 v7) (joinK (some f55lE) K) =
  spec_l1Piece.Z21 N v6 v7 (fun v4 v5 => K .ret (f55s7 v4 v5)) := by kernel_rfl
noncomputable def f55p6 : Plan := .mk (some f55l6) none f55p7 .n
theorem f55t6 N v6 v7 v2_0 v2_1 v2_2 (K : KT ρ) : f55i N (f55c 15) f55p6 (f55s3 v6 v7 v2_0 v2_1 v2_2) (joinK (some f55lE) K) =
  spec_l1Piece.Z6 N v6 v7 v2_0 v2_1 v2_2 (fun v4 v5 => K .ret (f55s7 v4 v5)) :=
 viaSeqS (fun k => spec_l1Piece.Z7 N v6 v7 v2_0 v2_1 v2_2 k) (by kernel_rfl) (f55t7 N (K := seqK (fun σ => f55i N (f55c 31) .n σ (joinK (some f55lE) K)) (joinK (some f55lE) K)) ..) (fx2 fun v6 v7 => f55t21 N v6 v7 K) (by kernel_rfl)
noncomputable def f55p4 : Plan := .mk (some f55l3) none .n f55p6
theorem f55t4 N v6 v1 v2_0 v2_1 v2_2 (K : KT ρ) : f55i N (f55c 7) f55p4 (f55s2 v6 v1 v2_0 v2_1 v2_2) (joinK (some f55lE) K) =
  spec_l1Piece.Z4 N v6 v1 v2_0 v2_1 v2_2 (fun v4 v5 => K .ret (f55s7 v4 v5)) :=
 viaSeqS (fun k => spec_l1Piece.Z5 N v6 v1 v2_0 v2_1 v2_2 k) (by kernel_rfl) (f55t5 N (K := seqK (fun σ => f55i N (f55c 15) f55p6 σ (joinK (some f55lE) K)) (joinK (some f55lE) K)) ..) (fx5 fun v6 v7 v2_0 v2_1 v2_2 => f55t6 N v6 v7 v2_0 v2_1 v2_2 K) (by kernel_rfl)
noncomputable def f55p2 : Plan := .mk (some f55l2) none .n f55p4
theorem f55t2 N v1 v2_0 v2_1 v2_2 (K : KT ρ) : f55i N (f55c 3) f55p2 (f55s1 v1 v2_0 v2_1 v2_2) (joinK (some f55lE) K) =
  spec_l1Piece.Z2 N v1 v2_0 v2_1 v2_2 (fun v4 v5 => K .ret (f55s7 v4 v5)) :=
 viaSeqS (fun k => spec_l1Piece.Z3 N v1 v2_0 v2_1 v2_2 k) (by kernel_rfl) (f55t3 N (K := seqK (fun σ => f55i N (f55c 7) f55p4 σ (joinK (some f55lE) K)) (joinK (some f55lE) K)) ..) (fx5 fun v6 v1 v2_0 v2_1 v2_2 => f55t4 N v6 v1 v2_0 v2_1 v2_2 K) (by kernel_rfl)
noncomputable def f55p0 : Plan := .mk (some f55l1) none .n f55p2
theorem f55t0 N v0 v1 (K : KT ρ) : f55i N (f55c 1) f55p0 (f55s0 v0 v1) (joinK (some f55lE) K) =
  spec_l1Piece.Z0 N v0 v1 (fun v4 v5 => K .ret (f55s7 v4 v5)) :=
 viaSeqS (fun k => spec_l1Piece.Z1 N v0 v1 k) (by kernel_rfl) (f55t1 N (K := seqK (fun σ => f55i N (f55c 3) f55p2 σ (joinK (some f55lE) K)) (joinK (some f55lE) K)) ..) (fx4 fun v1 v2_0 v2_1 v2_2 => f55t2 N v1 v2_0 v2_1 v2_2 K) (by kernel_rfl)
theorem f55m (N : Nat) (v0 : MT) (v1 : Int) : f55i N (f55c 1) f55p0 (f55s0 v0 v1) (joinK (some f55lE) (finK tab f55sig Tryd.f55.results.toList)) = spec_l1Piece.Z0 N v0 v1 (fun v4 v5 => some ((), (v4, (v5, ())))) :=
  (f55t0 N v0 v1 (finK tab f55sig Tryd.f55.results.toList)).trans (by kernel_rfl)
theorem f55ok (h : spec_l1Piece.Spec) : EntryOk Tryd.prog 55 e55 :=
  entry_of_code (sig := f55sig) (c := (f55c 1)) (pl := f55p0) (je := (some f55lE)) (B := f55B) Tryd.func55 (by kernel_rfl) (by kernel_rfl) (by kernel_rfl) tabOk f55GOk (by kernel_rfl) (by kernel_rfl) (by kernel_rfl) (by kernel_rfl) fun X hb hp => by
    obtain ⟨v0, v1, _⟩ := X
    obtain ⟨N, h⟩ := h v0 v1 hb.1 hp
    exact ⟨N, (f55m N v0 v1).trans (h N (Nat.le_refl N))⟩
theorem e55ok : EntryOk Tryd.prog 55 e55 := f55ok spec_l1Piece.ok
end Go.Fw
namespace Go.Fw
variable {ρ : Type}
open Go.Proofs
noncomputable def f56sig : Sig := ⟨[⟨.int .i64, false, false⟩], [⟨.int .i64, false, false⟩]⟩
noncomputable def e56 : Entry := ⟨f56sig, none, fun X => ((), ((spec_l1Abs.g X.1), ()))⟩
noncomputable def f56G : Gm := emptyG
theorem f56GOk : GOk Tryd.prog f56G := GOk.nil
noncomputable def f56lE : Clean := ⟨[], [], [], [], []⟩
noncomputable def f56s0 (v0 : Int) : St := initSt f56sig.ps (v0, ())
noncomputable def f56s1 (v2 : Int) : St := stOf [(2, xi v2)] [] []
noncomputable def f56l1 : Clean := ⟨[2], [], [], [], []⟩
noncomputable def f56B : Nat → Option Clean := lookL [(1000000, f56l1)]
noncomputable abbrev f56i {ρ : Type} (N : Nat) (c : Code) (p : Plan) (σ : St) (K : KT ρ) : Option ρ := iCode f56G tab f56B N c p σ K
noncomputable def f56c (n : Nat) : Code := codeN 99 (bodyOf Tryd.f56) n
theorem f56t0 N v0 (K : KT ρ) : f56i N (f56c 1) .n (f56s0 v0) (joinK (some f56lE) K) =
  spec_l1Abs.Z0 N v0 (fun v2 => K .ret (f56s1 v2)) := by kernel_rfl
theorem f56m (N : Nat) (v0 : Int) : f56i N (f56c 1) .n (f56s0 v0) (joinK (some f56lE) (finK tab f56sig Tryd.f56.results.toList)) = spec_l1Abs.Z0 N v0 (fun v2 => some ((), (v2, ()))) :=
  (f56t0 N v0 (finK tab f56sig Tryd.f56.results.toList)).trans (by kernel_rfl)
theorem f56ok (h : spec_l1Abs.Spec) : EntryOk Tryd.prog 56 e56 :=
  entry_of_code (sig := f56sig) (c := (f56c 1)) (pl := .n) (je := (some f56lE)) (B := f56B) Tryd.func56 (by kernel_rfl) (by kernel_rfl) (by kernel_rfl) tabOk f56GOk (by kernel_rfl) (by kernel_rfl) (by kernel_rfl) (by kernel_rfl) fun X hb hp => by
    obtain ⟨v0, _⟩ := X
    obtain ⟨N, h⟩ := h v0
    exact ⟨N, (f56m N v0).trans (h N (Nat.le_refl N))⟩
theorem e56ok : EntryOk Tryd.prog 56 e56 := f56ok spec_l1Abs.ok
end Go.Fw
namespace Go.Fw
variable {ρ : Type}
open Go.Proofs
noncomputable def f57sig : Sig := ⟨[⟨.int .i64, false, false⟩, ⟨.int .i64, false, false⟩], [⟨.int .i64, false, false⟩]⟩
noncomputable def e57 : Entry := ⟨f57sig, (some fun X => spec_l1Gcd.P X.1 X.2.1), fun X => ((), ((spec_l1Gcd.g X.1 X.2.1), ()))⟩
noncomputable def f57G : Gm := emptyG
theorem f57GOk : GOk Tryd.prog f57G := GOk.nil
noncomputable def f57lE : Clean := ⟨[], [], [], [], []⟩
noncomputable def f57s0 (v0 v1 : Int) : St := initSt f57sig.ps (v0, (v1, ()))
noncomputable def f57s1 (v0 v1 : Int) : St := stOf [(0, xi v0), (1, xi v1)] [] []
noncomputable def f57l1 : Clean := ⟨[0, 1], [], [], [], []⟩
noncomputable def f57s2 (v0 : Int) : St := stOf [(0, xi v0)] [] []
noncomputable def f57l2 : Clean := ⟨[0], [], [], [], []⟩
noncomputable def f57s3 (v4 : Int) : St := stOf [(4, xi v4)] [] []
noncomputable def f57l3 : Clean := ⟨[4], [], [], [], []⟩
noncomputable def f57B : Nat → Option Clean := lookL [(0, f57l2), (1000000, f57l3)]
noncomputable abbrev f57i {ρ : Type} (N : Nat) (c : Code) (p : Plan) (σ : St) (K : KT ρ) : Option ρ := iCode f57G tab f57B N c p σ K
noncomputable def f57c (n : Nat) : Code := codeN 99 (bodyOf Tryd.f57) n
theorem f57t1 N v0 v1 (K : KT ρ) : f57i N (f57c 2) .n (f57s0 v0 v1) (joinK (some f57l1) K) =
  spec_l1Gcd.Z1 N v0 v1 (fun v0 v1 => K .nrm (f57s1 v0 v1)) := by kernel_rfl
theorem f57t5 N v0 v1 (K : KT ρ) : f57i N (f57c 17) .n (f57s1 v0 v1) (joinK (some f57l1) K) =
  spec_l1Gcd.Z5 N v0 v1 (fun v0 v1 => K .nrm (f57s1 v0 v1)) (fun v0 => K (.exit 0) (f57s2 v0)) := by kernel_rfl
noncomputable def f57p4 : Plan := .mk none (some f57l1) .n .n
noncomputable abbrev f57w4 {ρ : Type} (N M : Nat) (σ : St) (K : KT ρ) : Option ρ := loopC (fun σ K => f57i N (f57c 17) .n σ K) f57l1 M σ K
theorem f57t4L {ρ : Type} (N : Nat) (K : KT ρ) : ∀ (M : Nat) (v0 v1 : Int), f57w4 N M (f57s1 v0 v1) K =
  spec_l1Gcd.Z4L N (fun v0 => K (.exit 0) (f57s2 v0)) M v0 v1
  | 0, _, _ => rfl
  | M + 1, v0, v1 => viaRoundS (fun k => spec_l1Gcd.Z5 N v0 v1 k (fun v0 => K (.exit 0) (f57s2 v0))) (f57t5 N (K := seqK (fun σ => f57w4 N M σ K) K) ..) (fx2 fun v0 v1 => f57t4L N K M v0 v1) (by kernel_rfl)
theorem f57t4 N v0 v1 (K : KT ρ) : f57i N (f57c 9) f57p4 (f57s1 v0 v1) (joinK (some f57l2) K) =
  spec_l1Gcd.Z4 N v0 v1 (fun v0 => K (.exit 0) (f57s2 v0)) :=
 viaLoopS (by kernel_rfl) (f57t4L N (joinK (some f57l2) K) N v0 v1) (by kernel_rfl)
noncomputable def f57p3 : Plan := .mk (some f57l2) none f57p4 .n
theorem f57t3 N v0 v1 (K : KT ρ) : f57i N (f57c 5) f57p3 (f57s1 v0 v1) (joinK (some f57l2) K) =
  spec_l1Gcd.Z3 N v0 v1 (fun v0 => K .nrm (f57s2 v0)) :=
 viaBlockS (by kernel_rfl) (f57t4 N (K := blockK 0 (joinK (some f57l2) K)) ..) (by kernel_rfl)
theorem f57t6 N v0 (K : KT ρ) : f57i N (f57c 7) .n (f57s2 v0) (joinK (some f57lE) K) =
  spec_l1Gcd.Z6 N v0 (fun v4 => K .ret (f57s3 v4)) := by kernel_rfl
noncomputable def f57p2 : Plan := .mk (some f57l2) none f57p3 .n
theorem f57t2 N v0 v1 (K : KT ρ) : f57i N (f57c 3) f57p2 (f57s1 v0 v1) (joinK (some f57lE) K) =
  spec_l1Gcd.Z2 N v0 v1 (fun v4 => K .ret (f57s3 v4)) :=
 viaSeqS (fun k => spec_l1Gcd.Z3 N v0 v1 k) (by kernel_rfl) (f57t3 N (K := seqK (fun σ => f57i N (f57c 7) .n σ (joinK (some f57lE) K)) (joinK (some f57lE) K)) ..) (funext fun v0 => f57t6 N v0 K) (by kernel_rfl)
noncomputable def f57p0 : Plan := .mk (some f57l1) none .n f57p2
theorem f57t0 N v0 v1 (K : KT ρ) : f57i N (f57c 1) f57p0 (f57s0 v0 v1) (joinK (some f57lE) K) =
  spec_l1Gcd.Z0 N v0 v1 (fun v4 => K .ret (f57s3 v4)) :=
 viaSeqS (fun k => spec_l1Gcd.Z1 N v0 v1 k) (by kernel_rfl) (f57t1 N (K := seqK (fun σ => f57i N (f57c 3) f57p2 σ (joinK (some f57lE) K)) (joinK (some f57lE) K)) ..) (fx2 fun v0 v1 => f57t2 N v0 v1 K) (by kernel_rfl)
theorem f57m (N : Nat) (v0 v1 : Int) : f57i N (f57c 1) f57p0 (f57s0 v0 v1) (joinK (some f57lE) (finK tab f57sig Tryd.f57.results.toList)) = spec_l1Gcd.Z0 N v0 v1 (fun v4 => some ((), (v4, ()))) :=
  (f57t0 N v0 v1 (finK tab f57sig Tryd.f57.results.toList)).trans (by kernel_rfl)
theorem f57ok (h : spec_l1Gcd.Spec) : EntryOk Tryd.prog 57 e57 :=
  entry_of_code (sig := f57sig) (c := (f57c 1)) (pl := f57p0) (je := (some f57lE)) (B := f57B) Tryd.func57 (by kernel_rfl) (by kernel_rfl) (by kernel_rfl) tabOk f57GOk (by kernel_rfl) (by kernel_rfl) (by kernel_rfl) (by kernel_rfl) fun X hb hp => by
    obtain ⟨v0, v1, _⟩ := X
    obtain ⟨N, h⟩ := h v0 v1 hp
    exact ⟨N, (f57m N v0 v1).trans (h N (Nat.le_refl N))⟩
theorem e57ok : EntryOk Tryd.prog 57 e57 := f57ok spec_l1Gcd.ok
end Go.Fw
namespace Go.Fw
variable {ρ : Type}
open Go.Proofs
noncomputable def f45sig : Sig := ⟨[⟨.pair (.int .i64) (.pair (.int .i64) (.sl 3 (.int .i64))), true, false⟩], [⟨.sl 3 (.int .i64), false, false⟩, ⟨.bool, false, false⟩]⟩
noncomputable def e45 : Entry := ⟨f45sig, (some fun X => spec_l1Factors.P X.1), fun X => ((), ((spec_l1Factors.g X.1).1, ((spec_l1Factors.g X.1).2, ())))⟩
noncomputable def f45G : Gm := addG (addG (addG (addG emptyG 54 e54) 55 e55) 56 e56) 57 e57
theorem f45GOk : GOk Tryd.prog f45G := ((((GOk.nil).add e54ok (by kernel_rfl)).add e55ok (by kernel_rfl)).add e56ok (by kernel_rfl)).add e57ok (by kernel_rfl)
noncomputable def f45lE : Clean := ⟨[], [], [], [], []⟩
noncomputable def f45s0 (v0 : MT) : St := initSt f45sig.ps (v0, ())
noncomputable def f45s1 (v1_0 v1_1 : Int) (v1_2 : LI) : St := stOf [(1, xb 1)] [(1, (38, [yi v1_0, yi v1_1, .sn 3 tI v1_2 none]))] []
noncomputable def f45l1 : Clean := ⟨[1], [1], [], [], []⟩
noncomputable def f45s2 (v4 : LI) (v1_0 v1_1 : Int) (v1_2 : LI) : St := stOf [(1, xb 1), (4, xo 1000256)] [(1, (38, [yi v1_0, yi v1_1, .sn 3 tI v1_2 none]))] [(1000256, (⟨3, .int .i64, v4, true, false⟩ : Row))]
noncomputable def f45l2 : Clean := ⟨[1, 4], [1], [], [], [(⟨false, 4, 0⟩, 1000256)]⟩
noncomputable def f45s3 (v4 : LI) (v5 v1_0 v1_1 : Int) (v1_2 : LI) : St := stOf [(1, xb 1), (4, xo 1000256), (5, xi v5)] [(1, (38, [yi v1_0, yi v1_1, .sn 3 tI v1_2 none]))] [(1000256, (⟨3, .int .i64, v4, true, false⟩ : Row))]
noncomputable def f45l3 : Clean := ⟨[1, 4, 5], [1], [], [], [(⟨false, 4, 0⟩, 1000256)]⟩
noncomputable def f45s4 (v4 v6 v7 : LI) (v5 v1_0 v1_1 : Int) (v1_2 : LI) : St := stOf [(1, xb 1), (4, xo 1000256), (5, xi v5), (6, xo 1000384), (7, xo 1000448)] [(1, (38, [yi v1_0, yi v1_1, .sn 3 tI v1_2 none]))] [(1000256, (⟨3, .int .i64, v4, true, false⟩ : Row)), (1000384, (⟨3, .int .i64, v6, true, false⟩ : Row)), (1000448, (⟨3, .int .i64, v7, true, false⟩ : Row))]
noncomputable def f45l4 : Clean := ⟨[1, 4, 5, 6, 7], [1], [], [], [(⟨false, 4, 0⟩, 1000256), (⟨false, 6, 0⟩, 1000384), (⟨false, 7, 0⟩, 1000448)]⟩
noncomputable def f45s5 (v4 v6 v7 : LI) (v5 v8 v1_0 v1_1 : Int) (v1_2 : LI) : St := stOf [(1, xb 1), (4, xo 1000256), (5, xi v5), (6, xo 1000384), (7, xo 1000448), (8, xi v8)] [(1, (38, [yi v1_0, yi v1_1, .sn 3 tI v1_2 none]))] [(1000256, (⟨3, .int .i64, v4, true, false⟩ : Row)), (1000384, (⟨3, .int .i64, v6, true, false⟩ : Row)), (1000448, (⟨3, .int .i64, v7, true, false⟩ : Row))]
noncomputable def f45l5 : Clean := ⟨[1, 4, 5, 6, 7, 8], [1], [], [], [(⟨false, 4, 0⟩, 1000256), (⟨false, 6, 0⟩, 1000384), (⟨false, 7, 0⟩, 1000448)]⟩
noncomputable def f45s6 (v4 v6 v7 : LI) (v5 v9 v1_0 v1_1 : Int) (v1_2 : LI) : St := stOf [(1, xb 1), (4, xo 1000256), (5, xi v5), (6, xo 1000384), (7, xo 1000448), (9, xi v9)] [(1, (38, [yi v1_0, yi v1_1, .sn 3 tI v1_2 none]))] [(1000256, (⟨3, .int .i64, v4, true, false⟩ : Row)), (1000384, (⟨3, .int .i64, v6, true, false⟩ : Row)), (1000448, (⟨3, .int .i64, v7, true, false⟩ : Row))]
noncomputable def f45l6 : Clean := ⟨[1, 4, 5, 6, 7, 9], [1], [], [], [(⟨false, 4, 0⟩, 1000256), (⟨false, 6, 0⟩, 1000384), (⟨false, 7, 0⟩, 1000448)]⟩
noncomputable def f45s7 (v4 v6 v7 : LI) (v5 v9 v10 v1_0 v1_1 : Int) (v1_2 : LI) : St := stOf [(1, xb 1), (4, xo 1000256), (5, xi v5), (6, xo 1000384), (7, xo 1000448), (9, xi v9), (10, xi v10)] [(1, (38, [yi v1_0, yi v1_1, .sn 3 tI v1_2 none]))] [(1000256, (⟨3, .int .i64, v4, true, false⟩ : Row)), (1000384, (⟨3, .int .i64, v6, true, false⟩ : Row)), (1000448, (⟨3, .int .i64, v7, true, false⟩ : Row))]
noncomputable def f45l7 : Clean := ⟨[1, 4, 5, 6, 7, 9, 10], [1], [], [], [(⟨false, 4, 0⟩, 1000256), (⟨false, 6, 0⟩, 1000384), (⟨false, 7, 0⟩, 1000448)]⟩
noncomputable def f45s8 (v4 v6 : LI) (v5 v9 v1_0 v1_1 : Int) (v1_2 : LI) : St := stOf [(1, xb 1), (4, xo 1000256), (5, xi v5), (6, xo 1000384), (9, xi v9)] [(1, (38, [yi v1_0, yi v1_1, .sn 3 tI v1_2 none]))] [(1000256, (⟨3, .int .i64, v4, true, false⟩ : Row)), (1000384, (⟨3, .int .i64, v6, true, false⟩ : Row))]
noncomputable def f45l8 : Clean := ⟨[1, 4, 5, 6, 9], [1], [], [], [(⟨false, 4, 0⟩, 1000256), (⟨false, 6, 0⟩, 1000384)]⟩
noncomputable def f45s9 (v4 v6 : LI) (v5 v9 v11 v1_0 v1_1 : Int) (v1_2 : LI) : St := stOf [(1, xb 1), (4, xo 1000256), (5, xi v5), (6, xo 1000384), (9, xi v9), (11, xi v11)] [(1, (38, [yi v1_0, yi v1_1, .sn 3 tI v1_2 none]))] [(1000256, (⟨3, .int .i64, v4, true, false⟩ : Row)), (1000384, (⟨3, .int .i64, v6, true, false⟩ : Row))]
noncomputable def f45l9 : Clean := ⟨[1, 4, 5, 6, 9, 11], [1], [], [], [(⟨false, 4, 0⟩, 1000256), (⟨false, 6, 0⟩, 1000384)]⟩
noncomputable def f45s10 (v4 : LI) (v12 v1_0 v1_1 : Int) (v1_2 : LI) : St := stOf [(1, xb 1), (4, xo 1000256), (12, xi v12)] [(1, (38, [yi v1_0, yi v1_1, .sn 3 tI v1_2 none]))] [(1000256, (⟨3, .int .i64, v4, true, false⟩ : Row))]
noncomputable def f45l10 : Clean := ⟨[1, 4, 12], [1], [], [], [(⟨false, 4, 0⟩, 1000256)]⟩
noncomputable def f45s11 (v4 : LI) (v12 v13 v1_0 v1_1 : Int) (v1_2 : LI) : St := stOf [(1, xb 1), (4, xo 1000256), (12, xi v12), (13, xi v13)] [(1, (38, [yi v1_0, yi v1_1, .sn 3 tI v1_2 none]))] [(1000256, (⟨3, .int .i64, v4, true, false⟩ : Row))]
noncomputable def f45l11 : Clean := ⟨[1, 4, 12, 13], [1], [], [], [(⟨false, 4, 0⟩, 1000256)]⟩
noncomputable def f45s12 (v4 : LI) : St := stOf [(4, xo 1000256)] [] [(1000256, (⟨3, .int .i64, v4, true, false⟩ : Row))]
noncomputable def f45l12 : Clean := ⟨[4], [], [], [], [(⟨false, 4, 0⟩, 1000256)]⟩
noncomputable def f45s13 (v2 : LI) (v3 : Bool) : St := stOf [(2, xo 1000128), (3, xB v3)] [] [(1000128, (⟨3, .int .i64, v2, true, false⟩ : Row))]
noncomputable def f45l13 : Clean := ⟨[2, 3], [], [⟨⟨false, 2, 0⟩, 30000000, 3, .int .i64, true⟩], [], [(⟨false, 2, 0⟩, 1000128)]⟩
noncomputable def f45B : Nat → Option Clean := lookL [(2, f45l4), (4, f45l8), (6, f45l3), (1, f45l3), (0, f45l2), (10, f45l10), (9, f45l10), (8, f45l12), (1000000, f45l13)]
noncomputable abbrev f45i {ρ : Type} (N : Nat) (c : Code) (p : Plan) (σ : St) (K : KT ρ) : Option ρ := iCode f45G tab f45B N c p σ K
noncomputable def f45c (n : Nat) : Code := codeN 99 (bodyOf Tryd.f45) n
theorem f45t1 N v0 (K : KT ρ) : f45i N (f45c 2) .n (f45s0 v0) (joinK (some f45l1) K) =
  spec_l1Factors.Z1 N v0 (fun v1_0 v1_1 v1_2 => K .nrm (f45s1 v1_0 v1_1 v1_2)) := by kernel_rfl
theorem f45t3 N v1_0 v1_1 v1_2 (K : KT ρ) : f45i N (f45c 5) .n (f45s1 v1_0 v1_1 v1_2) (joinK (some f45l2) K) =
  spec_l1Factors.Z3 N v1_0 v1_1 v1_2 (fun v4 v1_0 v1_1 v1_2 => K .nrm (f45s2 v4 v1_0 v1_1 v1_2)) := by kernel_rfl
theorem f45t6 N v4 v1_0 v1_1 v1_2 (K : KT ρ) : f45i N (f45c 19) .n (f45s2 v4 v1_0 v1_1 v1_2) (joinK (some f45l3) K) =
  spec_l1Factors.Z6 N v4 v1_0 v1_1 v1_2 (fun v4 v5 v1_0 v1_1 v1_2 => K .nrm (f45s3 v4 v5 v1_0 v1_1 v1_2)) := by kernel_rfl
theorem f45t10 N v4 v5 v1_0 v1_1 v1_2 (K : KT ρ) : f45i N (f45c 139) .n (f45s3 v4 v5 v1_0 v1_1 v1_2) (joinK (some f45l3) K) =
  spec_l1Factors.Z10 N v4 v5 v1_0 v1_1 v1_2 (fun v4 v5 v1_0 v1_1 v1_2 => K .nrm (f45s3 v4 v5 v1_0 v1_1 v1_2)) (fun v4 v1_0 v1_1 v1_2 => K (.exit 0) (f45s2 v4 v1_0 v1_1 v1_2)) := by kernel_rfl
theorem f45t14 N v4 v5 v1_0 v1_1 v1_2 (K : KT ρ) : f45i N (f45c 1099) .n (f45s3 v4 v5 v1_0 v1_1 v1_2) (joinK (some f45l3) K) =
  spec_l1Factors.Z14 N v4 v5 v1_0 v1_1 v1_2 (fun v4 v5 v1_0 v1_1 v1_2 => K .nrm (f45s3 v4 v5 v1_0 v1_1 v1_2)) (fun v4 v5 v1_0 v1_1 v1_2 => K (.exit 1) (f45s3 v4 v5 v1_0 v1_1 v1_2)) := by kernel_rfl
theorem f45t16 N v4 v5 v1_0 v1_1 v1_2 (K : KT ρ) : f45i N (f45c 2635) .n (f45s3 v4 v5 v1_0 v1_1 v1_2) (joinK (some f45l4) K) =
  spec_l1Factors.Z16 N v4 v5 v1_0 v1_1 v1_2 (fun v4 v6 v7 v5 v1_0 v1_1 v1_2 => K .nrm (f45s4 v4 v6 v7 v5 v1_0 v1_1 v1_2)) := by kernel_rfl
theorem f45t18 N v4 v6 v7 v5 v1_0 v1_1 v1_2 (K : KT ρ) : f45i N (f45c 5707) .n (f45s4 v4 v6 v7 v5 v1_0 v1_1 v1_2) (joinK (some f45l4) K) =
  spec_l1Factors.Z18 N v4 v6 v7 v5 v1_0 v1_1 v1_2 (fun v4 v6 v7 v5 v1_0 v1_1 v1_2 => K .nrm (f45s4 v4 v6 v7 v5 v1_0 v1_1 v1_2)) := by kernel_rfl
theorem f45t21 N v4 v6 v7 v5 v1_0 v1_1 v1_2 (K : KT ρ) : f45i N (f45c 20043) .n (f45s4 v4 v6 v7 v5 v1_0 v1_1 v1_2) (joinK (some f45l5) K) =
  spec_l1Factors.Z21 N v4 v6 v7 v5 v1_0 v1_1 v1_2 (fun v4 v6 v7 v5 v8 v1_0 v1_1 v1_2 => K .nrm (f45s5 v4 v6 v7 v5 v8 v1_0 v1_1 v1_2)) := by kernel_rfl
theorem f45t24 N v4 v6 v7 v5 v8 v1_0 v1_1 v1_2 (K : KT ρ) : f45i N (f45c 77387) .n (f45s5 v4 v6 v7 v5 v8 v1_0 v1_1 v1_2) (joinK (some f45l5) K) =
  spec_l1Factors.Z24 N v4 v6 v7 v5 v8 v1_0 v1_1 v1_2 (fun v4 v6 v7 v5 v8 v1_0 v1_1 v1_2 => K .nrm (f45s5 v4 v6 v7 v5 v8 v1_0 v1_1 v1_2)) (fun v4 v6 v7 v5 v1_0 v1_1 v1_2 => K (.exit 2) (f45s4 v4 v6 v7 v5 v1_0 v1_1 v1_2)) := by kernel_rfl
noncomputable def f45p23 : Plan := .mk none (some f45l5) .n .n
noncomputable abbrev f45w23 {ρ : Type} (N M : Nat) (σ : St) (K : KT ρ) : Option ρ := loopC (fun σ K => f45i N (f45c 77387) .n σ K) f45l5 M σ K
theorem f45t23L {ρ : Type} (N : Nat) (K : KT ρ) : ∀ (M : Nat) (v4 v6 v7 : LI) (v5 v8 v1_0 v1_1 : Int) (v1_2 : LI), f45w23 N M (f45s5 v4 v6 v7 v5 v8 v1_0 v1_1 v1_2) K =
  spec_l1Factors.Z23L N (fun v4 v6 v7 v5 v1_0 v1_1 v1_2 => K (.exit 2) (f45s4 v4 v6 v7 v5 v1_0 v1_1 v1_2)) M v4 v6 v7 v5 v8 v1_0 v1_1 v1_2
  | 0, _, _, _, _, _, _, _, _ => rfl
  | M + 1, v4, v6, v7, v5, v8, v1_0, v1_1, v1_2 => viaRoundS (fun k => spec_l1Factors.Z24 N v4 v6 v7 v5 v8 v1_0 v1_1 v1_2 k (fun v4 v6 v7 v5 v1_0 v1_1 v1_2 => K (.exit 2) (f45s4 v4 v6 v7 v5 v1_0 v1_1 v1_2))) (f45t24 N (K := seqK (fun σ => f45w23 N M σ K) K) ..) (fx8 fun v4 v6 v7 v5 v8 v1_0 v1_1 v1_2 => f45t23L N K M v4 v6 v7 v5 v8 v1_0 v1_1 v1_2) (by kernel_rfl)
theorem f45t23 N v4 v6 v7 v5 v8 v1_0 v1_1 v1_2 (K : KT ρ) : f45i N (f45c 44619) f45p23 (f45s5 v4 v6 v7 v5 v8 v1_0 v1_1 v1_2) (joinK (some f45l4) K) =
  spec_l1Factors.Z23 N v4 v6 v7 v5 v8 v1_0 v1_1 v1_2 (fun v4 v6 v7 v5 v1_0 v1_1 v1_2 => K (.exit 2) (f45s4 v4 v6 v7 v5 v1_0 v1_1 v1_2)) :=
 viaLoopS (by kernel_rfl) (f45t23L N (joinK (some f45l4) K) N v4 v6 v7 v5 v8 v1_0 v1_1 v1_2) (by kernel_rfl)
noncomputable def f45p22 : Plan := .mk (some f45l4) none f45p23 .n
theorem f45t22 N v4 v6 v7 v5 v8 v1_0 v1_1 v1_2 (K : KT ρ) : f45i N (f45c 28235) f45p22 (f45s5 v4 v6 v7 v5 v8 v1_0 v1_1 v1_2) (joinK (some f45l4) K) =
  spec_l1Factors.Z22 N v4 v6 v7 v5 v8 v1_0 v1_1 v1_2 (fun v4 v6 v7 v5 v1_0 v1_1 v1_2 => K .nrm (f45s4 v4 v6 v7 v5 v1_0 v1_1 v1_2)) :=
 viaBlockS (by kernel_rfl) (f45t23 N (K := blockK 2 (joinK (some f45l4) K)) ..) (by kernel_rfl)
noncomputable def f45p20 : Plan := .mk (some f45l5) none .n f45p22
theorem f45t20 N v4 v6 v7 v5 v1_0 v1_1 v1_2 (K : KT ρ) : f45i N (f45c 11851) f45p20 (f45s4 v4 v6 v7 v5 v1_0 v1_1 v1_2) (joinK (some f45l4) K) =
  spec_l1Factors.Z20 N v4 v6 v7 v5 v1_0 v1_1 v1_2 (fun v4 v6 v7 v5 v1_0 v1_1 v1_2 => K .nrm (f45s4 v4 v6 v7 v5 v1_0 v1_1 v1_2)) :=
 viaSeqS (fun k => spec_l1Factors.Z21 N v4 v6 v7 v5 v1_0 v1_1 v1_2 k) (by kernel_rfl) (f45t21 N (K := seqK (fun σ => f45i N (f45c 28235) f45p22 σ (joinK (some f45l4) K)) (joinK (some f45l4) K)) ..) (fx8 fun v4 v6 v7 v5 v8 v1_0 v1_1 v1_2 => f45t22 N v4 v6 v7 v5 v8 v1_0 v1_1 v1_2 K) (by kernel_rfl)
theorem f45t26 N v4 v6 v7 v5 v1_0 v1_1 v1_2 (K : KT ρ) : f45i N (f45c 24139) .n (f45s4 v4 v6 v7 v5 v1_0 v1_1 v1_2) (joinK (some f45l6) K) =
  spec_l1Factors.Z26 N v4 v6 v7 v5 v1_0 v1_1 v1_2 (fun v4 v6 v7 v5 v9 v1_0 v1_1 v1_2 => K .nrm (f45s6 v4 v6 v7 v5 v9 v1_0 v1_1 v1_2)) := by kernel_rfl
theorem f45t29 N v4 v6 v7 v5 v9 v1_0 v1_1 v1_2 (K : KT ρ) : f45i N (f45c 81483) .n (f45s6 v4 v6 v7 v5 v9 v1_0 v1_1 v1_2) (joinK (some f45l7) K) =
  spec_l1Factors.Z29 N v4 v6 v7 v5 v9 v1_0 v1_1 v1_2 (fun v4 v6 v7 v5 v9 v10 v1_0 v1_1 v1_2 => K .nrm (f45s7 v4 v6 v7 v5 v9 v10 v1_0 v1_1 v1_2)) := by kernel_rfl
theorem f45t32 N v4 v6 v7 v5 v9 v10 v1_0 v1_1 v1_2 (K : KT ρ) : f45i N (f45c 310859) .n (f45s7 v4 v6 v7 v5 v9 v10 v1_0 v1_1 v1_2) (joinK (some f45l7) K) =
  spec_l1Factors.Z32 N v4 v6 v7 v5 v9 v10 v1_0 v1_1 v1_2 (fun v4 v6 v7 v5 v9 v10 v1_0 v1_1 v1_2 => K .nrm (f45s7 v4 v6 v7 v5 v9 v10 v1_0 v1_1 v1_2)) (fun v4 v6 v5 v9 v1_0 v1_1 v1_2 => K (.exit 4) (f45s8 v4 v6 v5 v9 v1_0 v1_1 v1_2)) := by kernel_rfl
noncomputable def f45p31 : Plan := .mk none (some f45l7) .n .n
noncomputable abbrev f45w31 {ρ : Type} (N M : Nat) (σ : St) (K : KT ρ) : Option ρ := loopC (fun σ K => f45i N (f45c 310859) .n σ K) f45l7 M σ K
theorem f45t31L {ρ : Type} (N : Nat) (K : KT ρ) : ∀ (M : Nat) (v4 v6 v7 : LI) (v5 v9 v10 v1_0 v1_1 : Int) (v1_2 : LI), f45w31 N M (f45s7 v4 v6 v7 v5 v9 v10 v1_0 v1_1 v1_2) K =
  spec_l1Factors.Z31L N (fun v4 v6 v5 v9 v1_0 v1_1 v1_2 => K (.exit 4) (f45s8 v4 v6 v5 v9 v1_0 v1_1 v1_2)) M v4 v6 v7 v5 v9 v10 v1_0 v1_1 v1_2
  | 0, _, _, _, _, _, _, _, _, _ => rfl
  | M + 1, v4, v6, v7, v5, v9, v10, v1_0, v1_1, v1_2 => viaRoundS (fun k => spec_l1Factors.Z32 N v4 v6 v7 v5 v9 v10 v1_0 v1_1 v1_2 k (fun v4 v6 v5 v9 v1_0 v1_1 v1_2 => K (.exit 4) (f45s8 v4 v6 v5 v9 v1_0 v1_1 v1_2))) (f45t32 N (K := seqK (fun σ => f45w31 N M σ K) K) ..) (fx9 fun v4 v6 v7 v5 v9 v10 v1_0 v1_1 v1_2 => f45t31L N K M v4 v6 v7 v5 v9 v10 v1_0 v1_1 v1_2) (by kernel_rfl)
theorem f45t31 N v4 v6 v7 v5 v9 v10 v1_0 v1_1 v1_2 (K : KT ρ) : f45i N (f45c 179787) f45p31 (f45s7 v4 v6 v7 v5 v9 v10 v1_0 v1_1 v1_2) (joinK (some f45l8) K) =
  spec_l1Factors.Z31 N v4 v6 v7 v5 v9 v10 v1_0 v1_1 v1_2 (fun v4 v6 v5 v9 v1_0 v1_1 v1_2 => K (.exit 4) (f45s8 v4 v6 v5 v9 v1_0 v1_1 v1_2)) :=
 viaLoopS (by kernel_rfl) (f45t31L N (joinK (some f45l8) K) N v4 v6 v7 v5 v9 v10 v1_0 v1_1 v1_2) (by kernel_rfl)
noncomputable def f45p30 : Plan := .mk (some f45l8) none f45p31 .n
theorem f45t30 N v4 v6 v7 v5 v9 v10 v1_0 v1_1 v1_2 (K : KT ρ) : f45i N (f45c 114251) f45p30 (f45s7 v4 v6 v7 v5 v9 v10 v1_0 v1_1 v1_2) (joinK (some f45l8) K) =
  spec_l1Factors.Z30 N v4 v6 v7 v5 v9 v10 v1_0 v1_1 v1_2 (fun v4 v6 v5 v9 v1_0 v1_1 v1_2 => K .nrm (f45s8 v4 v6 v5 v9 v1_0 v1_1 v1_2)) :=
 viaBlockS (by kernel_rfl) (f45t31 N (K := blockK 4 (joinK (some f45l8) K)) ..) (by kernel_rfl)
noncomputable def f45p28 : Plan := .mk (some f45l7) none .n f45p30
theorem f45t28 N v4 v6 v7 v5 v9 v1_0 v1_1 v1_2 (K : KT ρ) : f45i N (f45c 48715) f45p28 (f45s6 v4 v6 v7 v5 v9 v1_0 v1_1 v1_2) (joinK (some f45l8) K) =
  spec_l1Factors.Z28 N v4 v6 v7 v5 v9 v1_0 v1_1 v1_2 (fun v4 v6 v5 v9 v1_0 v1_1 v1_2 => K .nrm (f45s8 v4 v6 v5 v9 v1_0 v1_1 v1_2)) :=
 viaSeqS (fun k => spec_l1Factors.Z29 N v4 v6 v7 v5 v9 v1_0 v1_1 v1_2 k) (by kernel_rfl) (f45t29 N (K := seqK (fun σ => f45i N (f45c 114251) f45p30 σ (joinK (some f45l8) K)) (joinK (some f45l8) K)) ..) (fx9 fun v4 v6 v7 v5 v9 v10 v1_0 v1_1 v1_2 => f45t30 N v4 v6 v7 v5 v9 v10 v1_0 v1_1 v1_2 K) (by kernel_rfl)
theorem f45t34 N v4 v6 v5 v9 v1_0 v1_1 v1_2 (K : KT ρ) : f45i N (f45c 97867) .n (f45s8 v4 v6 v5 v9 v1_0 v1_1 v1_2) (joinK (some f45l9) K) =
  spec_l1Factors.Z34 N v4 v6 v5 v9 v1_0 v1_1 v1_2 (fun v4 v6 v5 v9 v11 v1_0 v1_1 v1_2 => K .nrm (f45s9 v4 v6 v5 v9 v11 v1_0 v1_1 v1_2)) := by kernel_rfl
theorem f45t37 N v4 v6 v5 v9 v11 v1_0 v1_1 v1_2 (K : KT ρ) : f45i N (f45c 327243) .n (f45s9 v4 v6 v5 v9 v11 v1_0 v1_1 v1_2) (joinK (some f45l9) K) =
  spec_l1Factors.Z37 N v4 v6 v5 v9 v11 v1_0 v1_1 v1_2 (fun v4 v6 v5 v9 v11 v1_0 v1_1 v1_2 => K .nrm (f45s9 v4 v6 v5 v9 v11 v1_0 v1_1 v1_2)) (fun v4 v5 v1_0 v1_1 v1_2 => K (.exit 6) (f45s3 v4 v5 v1_0 v1_1 v1_2)) := by kernel_rfl
noncomputable def f45p36 : Plan := .mk none (some f45l9) .n .n
noncomputable abbrev f45w36 {ρ : Type} (N M : Nat) (σ : St) (K : KT ρ) : Option ρ := loopC (fun σ K => f45i N (f45c 327243) .n σ K) f45l9 M σ K
theorem f45t36L {ρ : Type} (N : Nat) (K : KT ρ) : ∀ (M : Nat) (v4 v6 : LI) (v5 v9 v11 v1_0 v1_1 : Int) (v1_2 : LI), f45w36 N M (f45s9 v4 v6 v5 v9 v11 v1_0 v1_1 v1_2) K =
  spec_l1Factors.Z36L N (fun v4 v5 v1_0 v1_1 v1_2 => K (.exit 6) (f45s3 v4 v5 v1_0 v1_1 v1_2)) M v4 v6 v5 v9 v11 v1_0 v1_1 v1_2
  | 0, _, _, _, _, _, _, _, _ => rfl
  | M + 1, v4, v6, v5, v9, v11, v1_0, v1_1, v1_2 => viaRoundS (fun k => spec_l1Factors.Z37 N v4 v6 v5 v9 v11 v1_0 v1_1 v1_2 k (fun v4 v5 v1_0 v1_1 v1_2 => K (.exit 6) (f45s3 v4 v5 v1_0 v1_1 v1_2))) (f45t37 N (K := seqK (fun σ => f45w36 N M σ K) K) ..) (fx8 fun v4 v6 v5 v9 v11 v1_0 v1_1 v1_2 => f45t36L N K M v4 v6 v5 v9 v11 v1_0 v1_1 v1_2) (by kernel_rfl)
theorem f45t36 N v4 v6 v5 v9 v11 v1_0 v1_1 v1_2 (K : KT ρ) : f45i N (f45c 196171) f45p36 (f45s9 v4 v6 v5 v9 v11 v1_0 v1_1 v1_2) (joinK (some f45l3) K) =
  spec_l1Factors.Z36 N v4 v6 v5 v9 v11 v1_0 v1_1 v1_2 (fun v4 v5 v1_0 v1_1 v1_2 => K (.exit 6) (f45s3 v4 v5 v1_0 v1_1 v1_2)) :=
 viaLoopS (by kernel_rfl) (f45t36L N (joinK (some f45l3) K) N v4 v6 v5 v9 v11 v1_0 v1_1 v1_2) (by kernel_rfl)
noncomputable def f45p35 : Plan := .mk (some f45l3) none f45p36 .n
theorem f45t35 N v4 v6 v5 v9 v11 v1_0 v1_1 v1_2 (K : KT ρ) : f45i N (f45c 130635) f45p35 (f45s9 v4 v6 v5 v9 v11 v1_0 v1_1 v1_2) (joinK (some f45l3) K) =
  spec_l1Factors.Z35 N v4 v6 v5 v9 v11 v1_0 v1_1 v1_2 (fun v4 v5 v1_0 v1_1 v1_2 => K .nrm (f45s3 v4 v5 v1_0 v1_1 v1_2)) :=
 viaBlockS (by kernel_rfl) (f45t36 N (K := blockK 6 (joinK (some f45l3) K)) ..) (by kernel_rfl)
noncomputable def f45p33 : Plan := .mk (some f45l9) none .n f45p35
theorem f45t33 N v4 v6 v5 v9 v1_0 v1_1 v1_2 (K : KT ρ) : f45i N (f45c 65099) f45p33 (f45s8 v4 v6 v5 v9 v1_0 v1_1 v1_2) (joinK (some f45l3) K) =
  spec_l1Factors.Z33 N v4 v6 v5 v9 v1_0 v1_1 v1_2 (fun v4 v5 v1_0 v1_1 v1_2 => K .nrm (f45s3 v4 v5 v1_0 v1_1 v1_2)) :=
 viaSeqS (fun k => spec_l1Factors.Z34 N v4 v6 v5 v9 v1_0 v1_1 v1_2 k) (by kernel_rfl) (f45t34 N (K := seqK (fun σ => f45i N (f45c 130635) f45p35 σ (joinK (some f45l3) K)) (joinK (some f45l3) K)) ..) (fx8 fun v4 v6 v5 v9 v11 v1_0 v1_1 v1_2 => f45t35 N v4 v6 v5 v9 v11 v1_0 v1_1 v1_2 K) (by kernel_rfl)
noncomputable def f45p27 : Plan := .mk (some f45l8) none f45p28 f45p33
theorem f45t27 N v4 v6 v7 v5 v9 v1_0 v1_1 v1_2 (K : KT ρ) : f45i N (f45c 32331) f45p27 (f45s6 v4 v6 v7 v5 v9 v1_0 v1_1 v1_2) (joinK (some f45l3) K) =
  spec_l1Factors.Z27 N v4 v6 v7 v5 v9 v1_0 v1_1 v1_2 (fun v4 v5 v1_0 v1_1 v1_2 => K .nrm (f45s3 v4 v5 v1_0 v1_1 v1_2)) :=
 viaSeqS (fun k => spec_l1Factors.Z28 N v4 v6 v7 v5 v9 v1_0 v1_1 v1_2 k) (by kernel_rfl) (f45t28 N (K := seqK (fun σ => f45i N (f45c 65099) f45p33 σ (joinK (some f45l3) K)) (joinK (some f45l3) K)) ..) (fx7 fun v4 v6 v5 v9 v1_0 v1_1 v1_2 => f45t33 N v4 v6 v5 v9 v1_0 v1_1 v1_2 K) (by kernel_rfl)
noncomputable def f45p25 : Plan := .mk (some f45l6) none .n f45p27
theorem f45t25 N v4 v6 v7 v5 v1_0 v1_1 v1_2 (K : KT ρ) : f45i N (f45c 15947) f45p25 (f45s4 v4 v6 v7 v5 v1_0 v1_1 v1_2) (joinK (some f45l3) K) =
  spec_l1Factors.Z25 N v4 v6 v7 v5 v1_0 v1_1 v1_2 (fun v4 v5 v1_0 v1_1 v1_2 => K .nrm (f45s3 v4 v5 v1_0 v1_1 v1_2)) :=
 viaSeqS (fun k => spec_l1Factors.Z26 N v4 v6 v7 v5 v1_0 v1_1 v1_2 k) (by kernel_rfl) (f45t26 N (K := seqK (fun σ => f45i N (f45c 32331) f45p27 σ (joinK (some f45l3) K)) (joinK (some f45l3) K)) ..) (fx8 fun v4 v6 v7 v5 v9 v1_0 v1_1 v1_2 => f45t27 N v4 v6 v7 v5 v9 v1_0 v1_1 v1_2 K) (by kernel_rfl)
noncomputable def f45p19 : Plan := .mk (some f45l4) none f45p20 f45p25
theorem f45t19 N v4 v6 v7 v5 v1_0 v1_1 v1_2 (K : KT ρ) : f45i N (f45c 7755) f45p19 (f45s4 v4 v6 v7 v5 v1_0 v1_1 v1_2) (joinK (some f45l3) K) =
  spec_l1Factors.Z19 N v4 v6 v7 v5 v1_0 v1_1 v1_2 (fun v4 v5 v1_0 v1_1 v1_2 => K .nrm (f45s3 v4 v5 v1_0 v1_1 v1_2)) :=
 viaSeqS (fun k => spec_l1Factors.Z20 N v4 v6 v7 v5 v1_0 v1_1 v1_2 k) (by kernel_rfl) (f45t20 N (K := seqK (fun σ => f45i N (f45c 15947) f45p25 σ (joinK (some f45l3) K)) (joinK (some f45l3) K)) ..) (fx7 fun v4 v6 v7 v5 v1_0 v1_1 v1_2 => f45t25 N v4 v6 v7 v5 v1_0 v1_1 v1_2 K) (by kernel_rfl)
noncomputable def f45p17 : Plan := .mk (some f45l4) none .n f45p19
theorem f45t17 N v4 v6 v7 v5 v1_0 v1_1 v1_2 (K : KT ρ) : f45i N (f45c 3659) f45p17 (f45s4 v4 v6 v7 v5 v1_0 v1_1 v1_2) (joinK (some f45l3) K) =
  spec_l1Factors.Z17 N v4 v6 v7 v5 v1_0 v1_1 v1_2 (fun v4 v5 v1_0 v1_1 v1_2 => K .nrm (f45s3 v4 v5 v1_0 v1_1 v1_2)) :=
 viaSeqS (fun k => spec_l1Factors.Z18 N v4 v6 v7 v5 v1_0 v1_1 v1_2 k) (by kernel_rfl) (f45t18 N (K := seqK (fun σ => f45i N (f45c 7755) f45p19 σ (joinK (some f45l3) K)) (joinK (some f45l3) K)) ..) (fx7 fun v4 v6 v7 v5 v1_0 v1_1 v1_2 => f45t19 N v4 v6 v7 v5 v1_0 v1_1 v1_2 K) (by kernel_rfl)
noncomputable def f45p15 : Plan := .mk (some f45l4) none .n f45p17
theorem f45t15 N v4 v5 v1_0 v1_1 v1_2 (K : KT ρ) : f45i N (f45c 1611) f45p15 (f45s3 v4 v5 v1_0 v1_1 v1_2) (joinK (some f45l3) K) =
  spec_l1Factors.Z15 N v4 v5 v1_0 v1_1 v1_2 (fun v4 v5 v1_0 v1_1 v1_2 => K .nrm (f45s3 v4 v5 v1_0 v1_1 v1_2)) :=
 viaSeqS (fun k => spec_l1Factors.Z16 N v4 v5 v1_0 v1_1 v1_2 k) (by kernel_rfl) (f45t16 N (K := seqK (fun σ => f45i N (f45c 3659) f45p17 σ (joinK (some f45l3) K)) (joinK (some f45l3) K)) ..) (fx7 fun v4 v6 v7 v5 v1_0 v1_1 v1_2 => f45t17 N v4 v6 v7 v5 v1_0 v1_1 v1_2 K) (by kernel_rfl)
noncomputable def f45p13 : Plan := .mk (some f45l3) none .n f45p15
theorem f45t13 N v4 v5 v1_0 v1_1 v1_2 (K : KT ρ) : f45i N (f45c 587) f45p13 (f45s3 v4 v5 v1_0 v1_1 v1_2) (joinK (some f45l3) K) =
  spec_l1Factors.Z13 N v4 v5 v1_0 v1_1 v1_2 (fun v4 v5 v1_0 v1_1 v1_2 => K .nrm (f45s3 v4 v5 v1_0 v1_1 v1_2)) (fun v4 v5 v1_0 v1_1 v1_2 => K (.exit 1) (f45s3 v4 v5 v1_0 v1_1 v1_2)) :=
 viaSeqS (fun k => spec_l1Factors.Z14 N v4 v5 v1_0 v1_1 v1_2 k (fun v4 v5 v1_0 v1_1 v1_2 => K (.exit 1) (f45s3 v4 v5 v1_0 v1_1 v1_2))) (by kernel_rfl) (f45t14 N (K := seqK (fun σ => f45i N (f45c 1611) f45p15 σ (joinK (some f45l3) K)) (joinK (some f45l3) K)) ..) (fx5 fun v4 v5 v1_0 v1_1 v1_2 => f45t15 N v4 v5 v1_0 v1_1 v1_2 K) (by kernel_rfl)
noncomputable def f45p12 : Plan := .mk (some f45l3) none f45p13 .n
theorem f45t12 N v4 v5 v1_0 v1_1 v1_2 (K : KT ρ) : f45i N (f45c 331) f45p12 (f45s3 v4 v5 v1_0 v1_1 v1_2) (joinK (some f45l3) K) =
  spec_l1Factors.Z12 N v4 v5 v1_0 v1_1 v1_2 (fun v4 v5 v1_0 v1_1 v1_2 => K .nrm (f45s3 v4 v5 v1_0 v1_1 v1_2)) :=
 viaBlockS (by kernel_rfl) (f45t13 N (K := blockK 1 (joinK (some f45l3) K)) ..) (by kernel_rfl)
theorem f45t38 N v4 v5 v1_0 v1_1 v1_2 (K : KT ρ) : f45i N (f45c 459) .n (f45s3 v4 v5 v1_0 v1_1 v1_2) (joinK (some f45l3) K) =
  spec_l1Factors.Z38 N v4 v5 v1_0 v1_1 v1_2 (fun v4 v5 v1_0 v1_1 v1_2 => K .nrm (f45s3 v4 v5 v1_0 v1_1 v1_2)) := by kernel_rfl
noncomputable def f45p11 : Plan := .mk (some f45l3) none f45p12 .n
theorem f45t11 N v4 v5 v1_0 v1_1 v1_2 (K : KT ρ) : f45i N (f45c 203) f45p11 (f45s3 v4 v5 v1_0 v1_1 v1_2) (joinK (some f45l3) K) =
  spec_l1Factors.Z11 N v4 v5 v1_0 v1_1 v1_2 (fun v4 v5 v1_0 v1_1 v1_2 => K .nrm (f45s3 v4 v5 v1_0 v1_1 v1_2)) :=
 viaSeqS (fun k => spec_l1Factors.Z12 N v4 v5 v1_0 v1_1 v1_2 k) (by kernel_rfl) (f45t12 N (K := seqK (fun σ => f45i N (f45c 459) .n σ (joinK (some f45l3) K)) (joinK (some f45l3) K)) ..) (fx5 fun v4 v5 v1_0 v1_1 v1_2 => f45t38 N v4 v5 v1_0 v1_1 v1_2 K) (by kernel_rfl)
noncomputable def f45p9 : Plan := .mk (some f45l3) none .n f45p11
theorem f45t9 N v4 v5 v1_0 v1_1 v1_2 (K : KT ρ) : f45i N (f45c 75) f45p9 (f45s3 v4 v5 v1_0 v1_1 v1_2) (joinK (some f45l3) K) =
  spec_l1Factors.Z9 N v4 v5 v1_0 v1_1 v1_2 (fun v4 v5 v1_0 v1_1 v1_2 => K .nrm (f45s3 v4 v5 v1_0 v1_1 v1_2)) (fun v4 v1_0 v1_1 v1_2 => K (.exit 0) (f45s2 v4 v1_0 v1_1 v1_2)) :=
 viaSeqS (fun k => spec_l1Factors.Z10 N v4 v5 v1_0 v1_1 v1_2 k (fun v4 v1_0 v1_1 v1_2 => K (.exit 0) (f45s2 v4 v1_0 v1_1 v1_2))) (by kernel_rfl) (f45t10 N (K := seqK (fun σ => f45i N (f45c 203) f45p11 σ (joinK (some f45l3) K)) (joinK (some f45l3) K)) ..) (fx5 fun v4 v5 v1_0 v1_1 v1_2 => f45t11 N v4 v5 v1_0 v1_1 v1_2 K) (by kernel_rfl)
noncomputable def f45p8 : Plan := .mk none (some f45l3) f45p9 .n
noncomputable abbrev f45w8 {ρ : Type} (N M : Nat) (σ : St) (K : KT ρ) : Option ρ := loopC (fun σ K => f45i N (f45c 75) f45p9 σ K) f45l3 M σ K
theorem f45t8L {ρ : Type} (N : Nat) (K : KT ρ) : ∀ (M : Nat) (v4 : LI) (v5 v1_0 v1_1 : Int) (v1_2 : LI), f45w8 N M (f45s3 v4 v5 v1_0 v1_1 v1_2) K =
  spec_l1Factors.Z8L N (fun v4 v1_0 v1_1 v1_2 => K (.exit 0) (f45s2 v4 v1_0 v1_1 v1_2)) M v4 v5 v1_0 v1_1 v1_2
  | 0, _, _, _, _, _ => rfl
  | M + 1, v4, v5, v1_0, v1_1, v1_2 => viaRoundS (fun k => spec_l1Factors.Z9 N v4 v5 v1_0 v1_1 v1_2 k (fun v4 v1_0 v1_1 v1_2 => K (.exit 0) (f45s2 v4 v1_0 v1_1 v1_2))) (f45t9 N (K := seqK (fun σ => f45w8 N M σ K) K) ..) (fx5 fun v4 v5 v1_0 v1_1 v1_2 => f45t8L N K M v4 v5 v1_0 v1_1 v1_2) (by kernel_rfl)
theorem f45t8 N v4 v5 v1_0 v1_1 v1_2 (K : KT ρ) : f45i N (f45c 43) f45p8 (f45s3 v4 v5 v1_0 v1_1 v1_2) (joinK (some f45l2) K) =
  spec_l1Factors.Z8 N v4 v5 v1_0 v1_1 v1_2 (fun v4 v1_0 v1_1 v1_2 => K (.exit 0) (f45s2 v4 v1_0 v1_1 v1_2)) :=
 viaLoopS (by kernel_rfl) (f45t8L N (joinK (some f45l2) K) N v4 v5 v1_0 v1_1 v1_2) (by kernel_rfl)
noncomputable def f45p7 : Plan := .mk (some f45l2) none f45p8 .n
theorem f45t7 N v4 v5 v1_0 v1_1 v1_2 (K : KT ρ) : f45i N (f45c 27) f45p7 (f45s3 v4 v5 v1_0 v1_1 v1_2) (joinK (some f45l2) K) =
  spec_l1Factors.Z7 N v4 v5 v1_0 v1_1 v1_2 (fun v4 v1_0 v1_1 v1_2 => K .nrm (f45s2 v4 v1_0 v1_1 v1_2)) :=
 viaBlockS (by kernel_rfl) (f45t8 N (K := blockK 0 (joinK (some f45l2) K)) ..) (by kernel_rfl)
noncomputable def f45p5 : Plan := .mk (some f45l3) none .n f45p7
theorem f45t5 N v4 v1_0 v1_1 v1_2 (K : KT ρ) : f45i N (f45c 11) f45p5 (f45s2 v4 v1_0 v1_1 v1_2) (joinK (some f45l2) K) =
  spec_l1Factors.Z5 N v4 v1_0 v1_1 v1_2 (fun v4 v1_0 v1_1 v1_2 => K .nrm (f45s2 v4 v1_0 v1_1 v1_2)) :=
 viaSeqS (fun k => spec_l1Factors.Z6 N v4 v1_0 v1_1 v1_2 k) (by kernel_rfl) (f45t6 N (K := seqK (fun σ => f45i N (f45c 27) f45p7 σ (joinK (some f45l2) K)) (joinK (some f45l2) K)) ..) (fx5 fun v4 v5 v1_0 v1_1 v1_2 => f45t7 N v4 v5 v1_0 v1_1 v1_2 K) (by kernel_rfl)
theorem f45t41 N v4 v1_0 v1_1 v1_2 (K : KT ρ) : f45i N (f45c 39) .n (f45s2 v4 v1_0 v1_1 v1_2) (joinK (some f45l10) K) =
  spec_l1Factors.Z41 N v4 v1_0 v1_1 v1_2 (fun v4 v12 v1_0 v1_1 v1_2 => K .nrm (f45s10 v4 v12 v1_0 v1_1 v1_2)) := by kernel_rfl
theorem f45t45 N v4 v12 v1_0 v1_1 v1_2 (K : KT ρ) : f45i N (f45c 279) .n (f45s10 v4 v12 v1_0 v1_1 v1_2) (joinK (some f45l10) K) =
  spec_l1Factors.Z45 N v4 v12 v1_0 v1_1 v1_2 (fun v4 v12 v1_0 v1_1 v1_2 => K .nrm (f45s10 v4 v12 v1_0 v1_1 v1_2)) (fun v4 => K (.exit 8) (f45s12 v4)) := by kernel_rfl
theorem f45t49 N v4 v12 v1_0 v1_1 v1_2 (K : KT ρ) : f45i N (f45c 2199) .n (f45s10 v4 v12 v1_0 v1_1 v1_2) (joinK (some f45l11) K) =
  spec_l1Factors.Z49 N v4 v12 v1_0 v1_1 v1_2 (fun v4 v12 v13 v1_0 v1_1 v1_2 => K .nrm (f45s11 v4 v12 v13 v1_0 v1_1 v1_2)) := by kernel_rfl
theorem f45t52 N v4 v12 v13 v1_0 v1_1 v1_2 (K : KT ρ) : f45i N (f45c 9367) .n (f45s11 v4 v12 v13 v1_0 v1_1 v1_2) (joinK (some f45l11) K) =
  spec_l1Factors.Z52 N v4 v12 v13 v1_0 v1_1 v1_2 (fun v4 v12 v13 v1_0 v1_1 v1_2 => K .nrm (f45s11 v4 v12 v13 v1_0 v1_1 v1_2)) (fun v4 v12 v1_0 v1_1 v1_2 => K (.exit 10) (f45s10 v4 v12 v1_0 v1_1 v1_2)) (fun v2 v3 => K .ret (f45s13 v2 v3)) := by kernel_rfl
noncomputable def f45p51 : Plan := .mk none (some f45l11) .n .n
noncomputable abbrev f45w51 {ρ : Type} (N M : Nat) (σ : St) (K : KT ρ) : Option ρ := loopC (fun σ K => f45i N (f45c 9367) .n σ K) f45l11 M σ K
theorem f45t51L {ρ : Type} (N : Nat) (K : KT ρ) : ∀ (M : Nat) (v4 : LI) (v12 v13 v1_0 v1_1 : Int) (v1_2 : LI), f45w51 N M (f45s11 v4 v12 v13 v1_0 v1_1 v1_2) K =
  spec_l1Factors.Z51L N (fun v4 v12 v1_0 v1_1 v1_2 => K (.exit 10) (f45s10 v4 v12 v1_0 v1_1 v1_2)) (fun v2 v3 => K .ret (f45s13 v2 v3)) M v4 v12 v13 v1_0 v1_1 v1_2
  | 0, _, _, _, _, _, _ => rfl
  | M + 1, v4, v12, v13, v1_0, v1_1, v1_2 => viaRoundS (fun k => spec_l1Factors.Z52 N v4 v12 v13 v1_0 v1_1 v1_2 k (fun v4 v12 v1_0 v1_1 v1_2 => K (.exit 10) (f45s10 v4 v12 v1_0 v1_1 v1_2)) (fun v2 v3 => K .ret (f45s13 v2 v3))) (f45t52 N (K := seqK (fun σ => f45w51 N M σ K) K) ..) (fx6 fun v4 v12 v13 v1_0 v1_1 v1_2 => f45t51L N K M v4 v12 v13 v1_0 v1_1 v1_2) (by kernel_rfl)
theorem f45t51 N v4 v12 v13 v1_0 v1_1 v1_2 (K : KT ρ) : f45i N (f45c 5271) f45p51 (f45s11 v4 v12 v13 v1_0 v1_1 v1_2) (joinK (some f45l10) K) =
  spec_l1Factors.Z51 N v4 v12 v13 v1_0 v1_1 v1_2 (fun v4 v12 v1_0 v1_1 v1_2 => K (.exit 10) (f45s10 v4 v12 v1_0 v1_1 v1_2)) (fun v2 v3 => K .ret (f45s13 v2 v3)) :=
 viaLoopS (by kernel_rfl) (f45t51L N (joinK (some f45l10) K) N v4 v12 v13 v1_0 v1_1 v1_2) (by kernel_rfl)
noncomputable def f45p50 : Plan := .mk (some f45l10) none f45p51 .n
theorem f45t50 N v4 v12 v13 v1_0 v1_1 v1_2 (K : KT ρ) : f45i N (f45c 3223) f45p50 (f45s11 v4 v12 v13 v1_0 v1_1 v1_2) (joinK (some f45l10) K) =
  spec_l1Factors.Z50 N v4 v12 v13 v1_0 v1_1 v1_2 (fun v4 v12 v1_0 v1_1 v1_2 => K .nrm (f45s10 v4 v12 v1_0 v1_1 v1_2)) (fun v2 v3 => K .ret (f45s13 v2 v3)) :=
 viaBlockS (by kernel_rfl) (f45t51 N (K := blockK 10 (joinK (some f45l10) K)) ..) (by kernel_rfl)
noncomputable def f45p48 : Plan := .mk (some f45l11) none .n f45p50
theorem f45t48 N v4 v12 v1_0 v1_1 v1_2 (K : KT ρ) : f45i N (f45c 1175) f45p48 (f45s10 v4 v12 v1_0 v1_1 v1_2) (joinK (some f45l10) K) =
  spec_l1Factors.Z48 N v4 v12 v1_0 v1_1 v1_2 (fun v4 v12 v1_0 v1_1 v1_2 => K .nrm (f45s10 v4 v12 v1_0 v1_1 v1_2)) (fun v2 v3 => K .ret (f45s13 v2 v3)) :=
 viaSeqS (fun k => spec_l1Factors.Z49 N v4 v12 v1_0 v1_1 v1_2 k) (by kernel_rfl) (f45t49 N (K := seqK (fun σ => f45i N (f45c 3223) f45p50 σ (joinK (some f45l10) K)) (joinK (some f45l10) K)) ..) (fx6 fun v4 v12 v13 v1_0 v1_1 v1_2 => f45t50 N v4 v12 v13 v1_0 v1_1 v1_2 K) (by kernel_rfl)
noncomputable def f45p47 : Plan := .mk (some f45l10) none f45p48 .n
theorem f45t47 N v4 v12 v1_0 v1_1 v1_2 (K : KT ρ) : f45i N (f45c 663) f45p47 (f45s10 v4 v12 v1_0 v1_1 v1_2) (joinK (some f45l10) K) =
  spec_l1Factors.Z47 N v4 v12 v1_0 v1_1 v1_2 (fun v4 v12 v1_0 v1_1 v1_2 => K .nrm (f45s10 v4 v12 v1_0 v1_1 v1_2)) (fun v2 v3 => K .ret (f45s13 v2 v3)) :=
 viaBlockS (by kernel_rfl) (f45t48 N (K := blockK 9 (joinK (some f45l10) K)) ..) (by kernel_rfl)
theorem f45t53 N v4 v12 v1_0 v1_1 v1_2 (K : KT ρ) : f45i N (f45c 919) .n (f45s10 v4 v12 v1_0 v1_1 v1_2) (joinK (some f45l10) K) =
  spec_l1Factors.Z53 N v4 v12 v1_0 v1_1 v1_2 (fun v4 v12 v1_0 v1_1 v1_2 => K .nrm (f45s10 v4 v12 v1_0 v1_1 v1_2)) := by kernel_rfl
noncomputable def f45p46 : Plan := .mk (some f45l10) none f45p47 .n
theorem f45t46 N v4 v12 v1_0 v1_1 v1_2 (K : KT ρ) : f45i N (f45c 407) f45p46 (f45s10 v4 v12 v1_0 v1_1 v1_2) (joinK (some f45l10) K) =
  spec_l1Factors.Z46 N v4 v12 v1_0 v1_1 v1_2 (fun v4 v12 v1_0 v1_1 v1_2 => K .nrm (f45s10 v4 v12 v1_0 v1_1 v1_2)) (fun v2 v3 => K .ret (f45s13 v2 v3)) :=
 viaSeqS (fun k => spec_l1Factors.Z47 N v4 v12 v1_0 v1_1 v1_2 k (fun v2 v3 => K .ret (f45s13 v2 v3))) (by kernel_rfl) (f45t47 N (K := seqK (fun σ => f45i N (f45c 919) .n σ (joinK (some f45l10) K)) (joinK (some f45l10) K)) ..) (fx5 fun v4 v12 v1_0 v1_1 v1_2 => f45t53 N v4 v12 v1_0 v1_1 v1_2 K) (by kernel_rfl)
noncomputable def f45p44 : Plan := .mk (some f45l10) none .n f45p46
theorem f45t44 N v4 v12 v1_0 v1_1 v1_2 (K : KT ρ) : f45i N (f45c 151) f45p44 (f45s10 v4 v12 v1_0 v1_1 v1_2) (joinK (some f45l10) K) =
  spec_l1Factors.Z44 N v4 v12 v1_0 v1_1 v1_2 (fun v4 v12 v1_0 v1_1 v1_2 => K .nrm (f45s10 v4 v12 v1_0 v1_1 v1_2)) (fun v4 => K (.exit 8) (f45s12 v4)) (fun v2 v3 => K .ret (f45s13 v2 v3)) :=
 viaSeqS (fun k => spec_l1Factors.Z45 N v4 v12 v1_0 v1_1 v1_2 k (fun v4 => K (.exit 8) (f45s12 v4))) (by kernel_rfl) (f45t45 N (K := seqK (fun σ => f45i N (f45c 407) f45p46 σ (joinK (some f45l10) K)) (joinK (some f45l10) K)) ..) (fx5 fun v4 v12 v1_0 v1_1 v1_2 => f45t46 N v4 v12 v1_0 v1_1 v1_2 K) (by kernel_rfl)
noncomputable def f45p43 : Plan := .mk none (some f45l10) f45p44 .n
noncomputable abbrev f45w43 {ρ : Type} (N M : Nat) (σ : St) (K : KT ρ) : Option ρ := loopC (fun σ K => f45i N (f45c 151) f45p44 σ K) f45l10 M σ K
theorem f45t43L {ρ : Type} (N : Nat) (K : KT ρ) : ∀ (M : Nat) (v4 : LI) (v12 v1_0 v1_1 : Int) (v1_2 : LI), f45w43 N M (f45s10 v4 v12 v1_0 v1_1 v1_2) K =
  spec_l1Factors.Z43L N (fun v4 => K (.exit 8) (f45s12 v4)) (fun v2 v3 => K .ret (f45s13 v2 v3)) M v4 v12 v1_0 v1_1 v1_2
  | 0, _, _, _, _, _ => rfl
  | M + 1, v4, v12, v1_0, v1_1, v1_2 => viaRoundS (fun k => spec_l1Factors.Z44 N v4 v12 v1_0 v1_1 v1_2 k (fun v4 => K (.exit 8) (f45s12 v4)) (fun v2 v3 => K .ret (f45s13 v2 v3))) (f45t44 N (K := seqK (fun σ => f45w43 N M σ K) K) ..) (fx5 fun v4 v12 v1_0 v1_1 v1_2 => f45t43L N K M v4 v12 v1_0 v1_1 v1_2) (by kernel_rfl)
theorem f45t43 N v4 v12 v1_0 v1_1 v1_2 (K : KT ρ) : f45i N (f45c 87) f45p43 (f45s10 v4 v12 v1_0 v1_1 v1_2) (joinK (some f45l12) K) =
  spec_l1Factors.Z43 N v4 v12 v1_0 v1_1 v1_2 (fun v4 => K (.exit 8) (f45s12 v4)) (fun v2 v3 => K .ret (f45s13 v2 v3)) :=
 viaLoopS (by kernel_rfl) (f45t43L N (joinK (some f45l12) K) N v4 v12 v1_0 v1_1 v1_2) (by kernel_rfl)
noncomputable def f45p42 : Plan := .mk (some f45l12) none f45p43 .n
theorem f45t42 N v4 v12 v1_0 v1_1 v1_2 (K : KT ρ) : f45i N (f45c 55) f45p42 (f45s10 v4 v12 v1_0 v1_1 v1_2) (joinK (some f45l12) K) =
  spec_l1Factors.Z42 N v4 v12 v1_0 v1_1 v1_2 (fun v4 => K .nrm (f45s12 v4)) (fun v2 v3 => K .ret (f45s13 v2 v3)) :=
 viaBlockS (by kernel_rfl) (f45t43 N (K := blockK 8 (joinK (some f45l12) K)) ..) (by kernel_rfl)
noncomputable def f45p40 : Plan := .mk (some f45l10) none .n f45p42
theorem f45t40 N v4 v1_0 v1_1 v1_2 (K : KT ρ) : f45i N (f45c 23) f45p40 (f45s2 v4 v1_0 v1_1 v1_2) (joinK (some f45l12) K) =
  spec_l1Factors.Z40 N v4 v1_0 v1_1 v1_2 (fun v4 => K .nrm (f45s12 v4)) (fun v2 v3 => K .ret (f45s13 v2 v3)) :=
 viaSeqS (fun k => spec_l1Factors.Z41 N v4 v1_0 v1_1 v1_2 k) (by kernel_rfl) (f45t41 N (K := seqK (fun σ => f45i N (f45c 55) f45p42 σ (joinK (some f45l12) K)) (joinK (some f45l12) K)) ..) (fx5 fun v4 v12 v1_0 v1_1 v1_2 => f45t42 N v4 v12 v1_0 v1_1 v1_2 K) (by kernel_rfl)
theorem f45t54 N v4 (K : KT ρ) : f45i N (f45c 31) .n (f45s12 v4) (joinK (some f45lE) K) =
  spec_l1Factors.Z54 N v4 (fun v2 v3 => K .ret (f45s13 v2 v3)) := by kernel_rfl
noncomputable def f45p39 : Plan := .mk (some f45l12) none f45p40 .n
theorem f45t39 N v4 v1_0 v1_1 v1_2 (K : KT ρ) : f45i N (f45c 15) f45p39 (f45s2 v4 v1_0 v1_1 v1_2) (joinK (some f45lE) K) =
  spec_l1Factors.Z39 N v4 v1_0 v1_1 v1_2 (fun v2 v3 => K .ret (f45s13 v2 v3)) :=
 viaSeqS (fun k => spec_l1Factors.Z40 N v4 v1_0 v1_1 v1_2 k (fun v2 v3 => K .ret (f45s13 v2 v3))) (by kernel_rfl) (f45t40 N (K := seqK (fun σ => f45i N (f45c 31) .n σ (joinK (some f45lE) K)) (joinK (some f45lE) K)) ..) (funext fun v4 => f45t54 N v4 K) (by kernel_rfl)
noncomputable def f45p4 : Plan := .mk (some f45l2) none f45p5 f45p39
theorem f45t4 N v4 v1_0 v1_1 v1_2 (K : KT ρ) : f45i N (f45c 7) f45p4 (f45s2 v4 v1_0 v1_1 v1_2) (joinK (some f45lE) K) =
  spec_l1Factors.Z4 N v4 v1_0 v1_1 v1_2 (fun v2 v3 => K .ret (f45s13 v2 v3)) :=
 viaSeqS (fun k => spec_l1Factors.Z5 N v4 v1_0 v1_1 v1_2 k) (by kernel_rfl) (f45t5 N (K := seqK (fun σ => f45i N (f45c 15) f45p39 σ (joinK (some f45lE) K)) (joinK (some f45lE) K)) ..) (fx4 fun v4 v1_0 v1_1 v1_2 => f45t39 N v4 v1_0 v1_1 v1_2 K) (by kernel_rfl)
noncomputable def f45p2 : Plan := .mk (some f45l2) none .n f45p4
theorem f45t2 N v1_0 v1_1 v1_2 (K : KT ρ) : f45i N (f45c 3) f45p2 (f45s1 v1_0 v1_1 v1_2) (joinK (some f45lE) K) =
  spec_l1Factors.Z2 N v1_0 v1_1 v1_2 (fun v2 v3 => K .ret (f45s13 v2 v3)) :=
 viaSeqS (fun k => spec_l1Factors.Z3 N v1_0 v1_1 v1_2 k) (by kernel_rfl) (f45t3 N (K := seqK (fun σ => f45i N (f45c 7) f45p4 σ (joinK (some f45lE) K)) (joinK (some f45lE) K)) ..) (fx4 fun v4 v1_0 v1_1 v1_2 => f45t4 N v4 v1_0 v1_1 v1_2 K) (by kernel_rfl)
noncomputable def f45p0 : Plan := .mk (some f45l1) none .n f45p2
theorem f45t0 N v0 (K : KT ρ) : f45i N (f45c 1) f45p0 (f45s0 v0) (joinK (some f45lE) K) =
  spec_l1Factors.Z0 N v0 (fun v2 v3 => K .ret (f45s13 v2 v3)) :=
 viaSeqS (fun k => spec_l1Factors.Z1 N v0 k) (by kernel_rfl) (f45t1 N (K := seqK (fun σ => f45i N (f45c 3) f45p2 σ (joinK (some f45lE) K)) (joinK (some f45lE) K)) ..) (fx3 fun v1_0 v1_1 v1_2 => f45t2 N v1_0 v1_1 v1_2 K) (by kernel_rfl)
theorem f45m (N : Nat) (v0 : MT) : f45i N (f45c 1) f45p0 (f45s0 v0) (joinK (some f45lE) (finK tab f45sig Tryd.f45.results.toList)) = spec_l1Factors.Z0 N v0 (fun v2 v3 => some ((), (v2, (v3, ())))) :=
  (f45t0 N v0 (finK tab f45sig Tryd.f45.results.toList)).trans (by kernel_rfl)
theorem f45ok (h : spec_l1Factors.Spec) : EntryOk Tryd.prog 45 e45 :=
  entry_of_code (sig := f45sig) (c := (f45c 1)) (pl := f45p0) (je := (some f45lE)) (B := f45B) Tryd.func45 (by kernel_rfl) (by kernel_rfl) (by kernel_rfl) tabOk f45GOk (by kernel_rfl) (by kernel_rfl) (by kernel_rfl) (by kernel_rfl) fun X hb hp => by
    obtain ⟨v0, _⟩ := X
    obtain ⟨N, h⟩ := h v0 hb.1 hp
    exact ⟨N, (f45m N v0).trans (h N (Nat.le_refl N))⟩
theorem e45ok : EntryOk Tryd.prog 45 e45 := f45ok spec_l1Factors.ok
end Go.Fw
namespace Go.Fw
variable {ρ : Type}
open Go.Proofs
noncomputable def f26sig : Sig := ⟨[⟨.pair (.int .i64) (.pair (.int .i64) (.sl 3 (.int .i64))), true, false⟩], [⟨.bool, false, false⟩]⟩
noncomputable def e26 : Entry := ⟨f26sig, none, fun X => ((), ((spec_MatrixOk.g X.1), ()))⟩
noncomputable def f26G : Gm := addG (addG emptyG 44 e44) 45 e45
theorem f26GOk : GOk Tryd.prog f26G := ((GOk.nil).add e44ok (by kernel_rfl)).add e45ok (by kernel_rfl)
noncomputable def f26lE : Clean := ⟨[], [], [], [], []⟩
noncomputable def f26s0 (v0 : MT) : St := initSt f26sig.ps (v0, ())
noncomputable def f26s1 (v2 : Bool) : St := stOf [(2, xB v2)] [] []
noncomputable def f26l1 : Clean := ⟨[2], [], [], [], []⟩
noncomputable def f26B : Nat → Option Clean := lookL [(1000000, f26l1)]
noncomputable abbrev f26i {ρ : Type} (N : Nat) (c : Code) (p : Plan) (σ : St) (K : KT ρ) : Option ρ := iCode f26G tab f26B N c p σ K
noncomputable def f26c (n : Nat) : Code := codeN 99 (bodyOf Tryd.f26) n
theorem f26t0 N v0 (K : KT ρ) : f26i N (f26c 1) .n (f26s0 v0) (joinK (some f26lE) K) =
  spec_MatrixOk.Z0 N v0 (fun v2 => K .ret (f26s1 v2)) := by kernel_rfl
theorem f26m (N : Nat) (v0 : MT) : f26i N (f26c 1) .n (f26s0 v0) (joinK (some f26lE) (finK tab f26sig Tryd.f26.results.toList)) = spec_MatrixOk.Z0 N v0 (fun v2 => some ((), (v2, ()))) :=
  (f26t0 N v0 (finK tab f26sig Tryd.f26.results.toList)).trans (by kernel_rfl)
theorem f26ok (h : spec_MatrixOk.Spec) : EntryOk Tryd.prog 26 e26 :=
  entry_of_code (sig := f26sig) (c := (f26c 1)) (pl := .n) (je := (some f26lE)) (B := f26B) Tryd.func26 (by kernel_rfl) (by kernel_rfl) (by kernel_rfl) tabOk f26GOk (by kernel_rfl) (by kernel_rfl) (by kernel_rfl) (by kernel_rfl) fun X hb hp => by
    obtain ⟨v0, _⟩ := X
    obtain ⟨N, h⟩ := h v0 hb.1
    exact ⟨N, (f26m N v0).trans (h N (Nat.le_refl N))⟩
theorem e26ok : EntryOk Tryd.prog 26 e26 := f26ok spec_MatrixOk.ok
end Go.Fw
namespace Go.Fw
variable {ρ : Type}
open Go.Proofs
noncomputable def f17sig : Sig := ⟨[⟨.int .i64, false, false⟩], [⟨.str, false, false⟩]⟩
noncomputable def e17 : Entry := ⟨f17sig, (some fun X => spec_FormatInt.P X.1), fun X => ((), ((spec_FormatInt.g X.1), ()))⟩
noncomputable def f17G : Gm := emptyG
theorem f17GOk : GOk Tryd.prog f17G := GOk.nil
noncomputable def f17lE : Clean := ⟨[], [], [], [], []⟩
noncomputable def f17s0 (v0 : Int) : St := initSt f17sig.ps (v0, ())
noncomputable def f17s1 (v0 : Int) : St := stOf [(0, xi v0)] [] []
noncomputable def f17l1 : Clean := ⟨[0], [], [], [], []⟩
noncomputable def f17s2 (v3 : List Int) (v0 : Int) : St := stOf [(0, xi v0), (3, xo 1000192)] [] [(1000192, (⟨5, .int .u8, v3, true, false⟩ : Row))]
noncomputable def f17l2 : Clean := ⟨[0, 3], [], [], [], [(⟨false, 3, 0⟩, 1000192)]⟩
noncomputable def f17s3 (v3 : List Int) (v0 v4 : Int) : St := stOf [(0, xi v0), (3, xo 1000192), (4, xi v4)] [] [(1000192, (⟨5, .int .u8, v3, true, false⟩ : Row))]
noncomputable def f17l3 : Clean := ⟨[0, 3, 4], [], [], [], [(⟨false, 3, 0⟩, 1000192)]⟩
noncomputable def f17s4 (v3 v6 : List Int) (v0 : Int) : St := stOf [(0, xi v0), (3, xo 1000192), (6, xo 1000384)] [] [(1000192, (⟨5, .int .u8, v3, true, false⟩ : Row)), (1000384, (⟨5, .int .u8, v6, true, false⟩ : Row))]
noncomputable def f17l4 : Clean := ⟨[0, 3, 6], [], [], [], [(⟨false, 3, 0⟩, 1000192), (⟨false, 6, 0⟩, 1000384)]⟩
noncomputable def f17s5 (v3 v6 : List Int) : St := stOf [(3, xo 1000192), (6, xo 1000384)] [] [(1000192, (⟨5, .int .u8, v3, true, false⟩ : Row)), (1000384, (⟨5, .int .u8, v6, true, false⟩ : Row))]
noncomputable def f17l5 : Clean := ⟨[3, 6], [], [], [], [(⟨false, 3, 0⟩, 1000192), (⟨false, 6, 0⟩, 1000384)]⟩
noncomputable def f17s6 (v3 v6 : List Int) (v7 : Int) : St := stOf [(3, xo 1000192), (6, xo 1000384), (7, xi v7)] [] [(1000192, (⟨5, .int .u8, v3, true, false⟩ : Row)), (1000384, (⟨5, .int .u8, v6, true, false⟩ : Row))]
noncomputable def f17l6 : Clean := ⟨[3, 6, 7], [], [], [], [(⟨false, 3, 0⟩, 1000192), (⟨false, 6, 0⟩, 1000384)]⟩
noncomputable def f17s7 (v6 : List Int) : St := stOf [(6, xo 1000384)] [] [(1000384, (⟨5, .int .u8, v6, true, false⟩ : Row))]
noncomputable def f17l7 : Clean := ⟨[6], [], [], [], [(⟨false, 6, 0⟩, 1000384)]⟩
noncomputable def f17s8 (v2 : ByteArray) : St := stOf [(2, .c (.str v2))] [] []
noncomputable def f17l8 : Clean := ⟨[2], [], [], [], []⟩
noncomputable def f17B : Nat → Option Clean := lookL [(0, f17l2), (2, f17l7), (1000000, f17l8)]
noncomputable abbrev f17i {ρ : Type} (N : Nat) (c : Code) (p : Plan) (σ : St) (K : KT ρ) : Option ρ := iCode f17G tab f17B N c p σ K
noncomputable def f17c (n : Nat) : Code := codeN 99 (bodyOf Tryd.f17) n
theorem f17t1 N v0 (K : KT ρ) : f17i N (f17c 2) .n (f17s0 v0) (joinK (some f17l1) K) =
  spec_FormatInt.Z1 N v0 (fun v0 => K .nrm (f17s1 v0)) := by kernel_rfl
theorem f17t3 N v0 (K : KT ρ) : f17i N (f17c 5) .n (f17s1 v0) (joinK (some f17l2) K) =
  spec_FormatInt.Z3 N v0 (fun v3 v0 => K .nrm (f17s2 v3 v0)) := by kernel_rfl
theorem f17t5 N v3 v0 (K : KT ρ) : f17i N (f17c 11) .n (f17s2 v3 v0) (joinK (some f17l3) K) =
  spec_FormatInt.Z5 N v3 v0 (fun v3 v0 v4 => K .nrm (f17s3 v3 v0 v4)) := by kernel_rfl
theorem f17t9 N v3 v0 v4 (K : KT ρ) : f17i N (f17c 71) .n (f17s3 v3 v0 v4) (joinK (some f17l3) K) =
  spec_FormatInt.Z9 N v3 v0 v4 (fun v3 v0 v4 => K .nrm (f17s3 v3 v0 v4)) (fun v3 v0 => K (.exit 0) (f17s2 v3 v0)) := by kernel_rfl
noncomputable def f17p8 : Plan := .mk none (some f17l3) .n .n
noncomputable abbrev f17w8 {ρ : Type} (N M : Nat) (σ : St) (K : KT ρ) : Option ρ := loopC (fun σ K => f17i N (f17c 71) .n σ K) f17l3 M σ K
theorem f17t8L {ρ : Type} (N : Nat) (K : KT ρ) : ∀ (M : Nat) (v3 : List Int) (v0 v4 : Int), f17w8 N M (f17s3 v3 v0 v4) K =
  spec_FormatInt.Z8L N (fun v3 v0 => K (.exit 0) (f17s2 v3 v0)) M v3 v0 v4
  | 0, _, _, _ => rfl
  | M + 1, v3, v0, v4 => viaRoundS (fun k => spec_FormatInt.Z9 N v3 v0 v4 k (fun v3 v0 => K (.exit 0) (f17s2 v3 v0))) (f17t9 N (K := seqK (fun σ => f17w8 N M σ K) K) ..) (fx3 fun v3 v0 v4 => f17t8L N K M v3 v0 v4) (by kernel_rfl)
theorem f17t8 N v3 v0 v4 (K : KT ρ) : f17i N (f17c 39) f17p8 (f17s3 v3 v0 v4) (joinK (some f17l2) K) =
  spec_FormatInt.Z8 N v3 v0 v4 (fun v3 v0 => K (.exit 0) (f17s2 v3 v0)) :=
 viaLoopS (by kernel_rfl) (f17t8L N (joinK (some f17l2) K) N v3 v0 v4) (by kernel_rfl)
noncomputable def f17p7 : Plan := .mk (some f17l2) none f17p8 .n
theorem f17t7 N v3 v0 v4 (K : KT ρ) : f17i N (f17c 23) f17p7 (f17s3 v3 v0 v4) (joinK (some f17l2) K) =
  spec_FormatInt.Z7 N v3 v0 v4 (fun v3 v0 => K .nrm (f17s2 v3 v0)) :=
 viaBlockS (by kernel_rfl) (f17t8 N (K := blockK 0 (joinK (some f17l2) K)) ..) (by kernel_rfl)
theorem f17t11 N v3 v0 (K : KT ρ) : f17i N (f17c 47) .n (f17s2 v3 v0) (joinK (some f17l4) K) =
  spec_FormatInt.Z11 N v3 v0 (fun v3 v6 v0 => K .nrm (f17s4 v3 v6 v0)) := by kernel_rfl
theorem f17t13 N v3 v6 v0 (K : KT ρ) : f17i N (f17c 95) .n (f17s4 v3 v6 v0) (joinK (some f17l5) K) =
  spec_FormatInt.Z13 N v3 v6 v0 (fun v3 v6 => K .nrm (f17s5 v3 v6)) := by kernel_rfl
theorem f17t16 N v3 v6 (K : KT ρ) : f17i N (f17c 319) .n (f17s5 v3 v6) (joinK (some f17l6) K) =
  spec_FormatInt.Z16 N v3 v6 (fun v3 v6 v7 => K .nrm (f17s6 v3 v6 v7)) := by kernel_rfl
theorem f17t19 N v3 v6 v7 (K : KT ρ) : f17i N (f17c 1215) .n (f17s6 v3 v6 v7) (joinK (some f17l6) K) =
  spec_FormatInt.Z19 N v3 v6 v7 (fun v3 v6 v7 => K .nrm (f17s6 v3 v6 v7)) (fun v6 => K (.exit 2) (f17s7 v6)) := by kernel_rfl
noncomputable def f17p18 : Plan := .mk none (some f17l6) .n .n
noncomputable abbrev f17w18 {ρ : Type} (N M : Nat) (σ : St) (K : KT ρ) : Option ρ := loopC (fun σ K => f17i N (f17c 1215) .n σ K) f17l6 M σ K
theorem f17t18L {ρ : Type} (N : Nat) (K : KT ρ) : ∀ (M : Nat) (v3 v6 : List Int) (v7 : Int), f17w18 N M (f17s6 v3 v6 v7) K =
  spec_FormatInt.Z18L N (fun v6 => K (.exit 2) (f17s7 v6)) M v3 v6 v7
  | 0, _, _, _ => rfl
  | M + 1, v3, v6, v7 => viaRoundS (fun k => spec_FormatInt.Z19 N v3 v6 v7 k (fun v6 => K (.exit 2) (f17s7 v6))) (f17t19 N (K := seqK (fun σ => f17w18 N M σ K) K) ..) (fx3 fun v3 v6 v7 => f17t18L N K M v3 v6 v7) (by kernel_rfl)
theorem f17t18 N v3 v6 v7 (K : KT ρ) : f17i N (f17c 703) f17p18 (f17s6 v3 v6 v7) (joinK (some f17l7) K) =
  spec_FormatInt.Z18 N v3 v6 v7 (fun v6 => K (.exit 2) (f17s7 v6)) :=
 viaLoopS (by kernel_rfl) (f17t18L N (joinK (some f17l7) K) N v3 v6 v7) (by kernel_rfl)
noncomputable def f17p17 : Plan := .mk (some f17l7) none f17p18 .n
theorem f17t17 N v3 v6 v7 (K : KT ρ) : f17i N (f17c 447) f17p17 (f17s6 v3 v6 v7) (joinK (some f17l7) K) =
  spec_FormatInt.Z17 N v3 v6 v7 (fun v6 => K .nrm (f17s7 v6)) :=
 viaBlockS (by kernel_rfl) (f17t18 N (K := blockK 2 (joinK (some f17l7) K)) ..) (by kernel_rfl)
noncomputable def f17p15 : Plan := .mk (some f17l6) none .n f17p17
theorem f17t15 N v3 v6 (K : KT ρ) : f17i N (f17c 191) f17p15 (f17s5 v3 v6) (joinK (some f17l7) K) =
  spec_FormatInt.Z15 N v3 v6 (fun v6 => K .nrm (f17s7 v6)) :=
 viaSeqS (fun k => spec_FormatInt.Z16 N v3 v6 k) (by kernel_rfl) (f17t16 N (K := seqK (fun σ => f17i N (f17c 447) f17p17 σ (joinK (some f17l7) K)) (joinK (some f17l7) K)) ..) (fx3 fun v3 v6 v7 => f17t17 N v3 v6 v7 K) (by kernel_rfl)
theorem f17t20 N v6 (K : KT ρ) : f17i N (f17c 255) .n (f17s7 v6) (joinK (some f17lE) K) =
  spec_FormatInt.Z20 N v6 (fun v2 => K .ret (f17s8 v2)) := by kernel_rfl
noncomputable def f17p14 : Plan := .mk (some f17l7) none f17p15 .n
theorem f17t14 N v3 v6 (K : KT ρ) : f17i N (f17c 127) f17p14 (f17s5 v3 v6) (joinK (some f17lE) K) =
  spec_FormatInt.Z14 N v3 v6 (fun v2 => K .ret (f17s8 v2)) :=
 viaSeqS (fun k => spec_FormatInt.Z15 N v3 v6 k) (by kernel_rfl) (f17t15 N (K := seqK (fun σ => f17i N (f17c 255) .n σ (joinK (some f17lE) K)) (joinK (some f17lE) K)) ..) (funext fun v6 => f17t20 N v6 K) (by kernel_rfl)
noncomputable def f17p12 : Plan := .mk (some f17l5) none .n f17p14
theorem f17t12 N v3 v6 v0 (K : KT ρ) : f17i N (f17c 63) f17p12 (f17s4 v3 v6 v0) (joinK (some f17lE) K) =
  spec_FormatInt.Z12 N v3 v6 v0 (fun v2 => K .ret (f17s8 v2)) :=
 viaSeqS (fun k => spec_FormatInt.Z13 N v3 v6 v0 k) (by kernel_rfl) (f17t13 N (K := seqK (fun σ => f17i N (f17c 127) f17p14 σ (joinK (some f17lE) K)) (joinK (some f17lE) K)) ..) (fx2 fun v3 v6 => f17t14 N v3 v6 K) (by kernel_rfl)
noncomputable def f17p10 : Plan := .mk (some f17l4) none .n f17p12
theorem f17t10 N v3 v0 (K : KT ρ) : f17i N (f17c 31) f17p10 (f17s2 v3 v0) (joinK (some f17lE) K) =
  spec_FormatInt.Z10 N v3 v0 (fun v2 => K .ret (f17s8 v2)) :=
 viaSeqS (fun k => spec_FormatInt.Z11 N v3 v0 k) (by kernel_rfl) (f17t11 N (K := seqK (fun σ => f17i N (f17c 63) f17p12 σ (joinK (some f17lE) K)) (joinK (some f17lE) K)) ..) (fx3 fun v3 v6 v0 => f17t12 N v3 v6 v0 K) (by kernel_rfl)
noncomputable def f17p6 : Plan := .mk (some f17l2) none f17p7 f17p10
theorem f17t6 N v3 v0 v4 (K : KT ρ) : f17i N (f17c 15) f17p6 (f17s3 v3 v0 v4) (joinK (some f17lE) K) =
  spec_FormatInt.Z6 N v3 v0 v4 (fun v2 => K .ret (f17s8 v2)) :=
 viaSeqS (fun k => spec_FormatInt.Z7 N v3 v0 v4 k) (by kernel_rfl) (f17t7 N (K := seqK (fun σ => f17i N (f17c 31) f17p10 σ (joinK (some f17lE) K)) (joinK (some f17lE) K)) ..) (fx2 fun v3 v0 => f17t10 N v3 v0 K) (by kernel_rfl)
noncomputable def f17p4 : Plan := .mk (some f17l3) none .n f17p6
theorem f17t4 N v3 v0 (K : KT ρ) : f17i N (f17c 7) f17p4 (f17s2 v3 v0) (joinK (some f17lE) K) =
  spec_FormatInt.Z4 N v3 v0 (fun v2 => K .ret (f17s8 v2)) :=
 viaSeqS (fun k => spec_FormatInt.Z5 N v3 v0 k) (by kernel_rfl) (f17t5 N (K := seqK (fun σ => f17i N (f17c 15) f17p6 σ (joinK (some f17lE) K)) (joinK (some f17lE) K)) ..) (fx3 fun v3 v0 v4 => f17t6 N v3 v0 v4 K) (by kernel_rfl)
noncomputable def f17p2 : Plan := .mk (some f17l2) none .n f17p4
theorem f17t2 N v0 (K : KT ρ) : f17i N (f17c 3) f17p2 (f17s1 v0) (joinK (some f17lE) K) =
  spec_FormatInt.Z2 N v0 (fun v2 => K .ret (f17s8 v2)) :=
 viaSeqS (fun k => spec_FormatInt.Z3 N v0 k) (by kernel_rfl) (f17t3 N (K := seqK (fun σ => f17i N (f17c 7) f17p4 σ (joinK (some f17lE) K)) (joinK (some f17lE) K)) ..) (fx2 fun v3 v0 => f17t4 N v3 v0 K) (by kernel_rfl)
noncomputable def f17p0 : Plan := .mk (some f17l1) none .n f17p2
theorem f17t0 N v0 (K : KT ρ) : f17i N (f17c 1) f17p0 (f17s0 v0) (joinK (some f17lE) K) =
  spec_FormatInt.Z0 N v0 (fun v2 => K .ret (f17s8 v2)) :=
 viaSeqS (fun k => spec_FormatInt.Z1 N v0 k) (by kernel_rfl) (f17t1 N (K := seqK (fun σ => f17i N (f17c 3) f17p2 σ (joinK (some f17lE) K)) (joinK (some f17lE) K)) ..) (funext fun v0 => f17t2 N v0 K) (by kernel_rfl)
theorem f17m (N : Nat) (v0 : Int) : f17i N (f17c 1) f17p0 (f17s0 v0) (joinK (some f17lE) (finK tab f17sig Tryd.f17.results.toList)) = spec_FormatInt.Z0 N v0 (fun v2 => some ((), (v2, ()))) :=
  (f17t0 N v0 (finK tab f17sig Tryd.f17.results.toList)).trans (by kernel_rfl)
theorem f17ok (h : spec_FormatInt.Spec) : EntryOk Tryd.prog 17 e17 :=
  entry_of_code (sig := f17sig) (c := (f17c 1)) (pl := f17p0) (je := (some f17lE)) (B := f17B) Tryd.func17 (by kernel_rfl) (by kernel_rfl) (by kernel_rfl) tabOk f17GOk (by kernel_rfl) (by kernel_rfl) (by kernel_rfl) (by kernel_rfl) fun X hb hp => by
    obtain ⟨v0, _⟩ := X
    obtain ⟨N, h⟩ := h v0 hp
    exact ⟨N, (f17m N v0).trans (h N (Nat.le_refl N))⟩
theorem e17ok : EntryOk Tryd.prog 17 e17 := f17ok spec_FormatInt.ok
end Go.Fw
namespace Go.Fw
variable {ρ : Type}
open Go.Proofs
noncomputable def f18sig : Sig := ⟨[⟨.sl 3 (.int .i64), false, false⟩], [⟨.str, false, false⟩]⟩
noncomputable def e18 : Entry := ⟨f18sig, (some fun X => spec_FormatInts.P X.1), fun X => ((), ((spec_FormatInts.g X.1), ()))⟩
noncomputable def f18G : Gm := addG emptyG 17 e17
theorem f18GOk : GOk Tryd.prog f18G := (GOk.nil).add e17ok (by kernel_rfl)
noncomputable def f18lE : Clean := ⟨[], [], [], [], []⟩
noncomputable def f18s0 (v0 : LI) : St := initSt f18sig.ps (v0, ())
noncomputable def f18s1 (v0 : LI) : St := stOf [(0, .c (.sn 3 tI v0 none))] [] []
noncomputable def f18l1 : Clean := ⟨[0], [], [], [], []⟩
noncomputable def f18s2 (v0 : LI) (v3 : ByteArray) : St := stOf [(0, .c (.sn 3 tI v0 none)), (3, .c (.str v3))] [] []
noncomputable def f18l2 : Clean := ⟨[0, 3], [], [], [], []⟩
noncomputable def f18s3 (v0 : LI) (v3 : ByteArray) (v4 : Int) : St := stOf [(0, .c (.sn 3 tI v0 none)), (3, .c (.str v3)), (4, xi v4)] [] []
noncomputable def f18l3 : Clean := ⟨[0, 3, 4], [], [], [], []⟩
noncomputable def f18s4 (v3 : ByteArray) : St := stOf [(3, .c (.str v3))] [] []
noncomputable def f18l4 : Clean := ⟨[3], [], [], [], []⟩
noncomputable def f18s5 (v2 : ByteArray) : St := stOf [(2, .c (.str v2))] [] []
noncomputable def f18l5 : Clean := ⟨[2], [], [], [], []⟩
noncomputable def f18B : Nat → Option Clean := lookL [(0, f18l4), (1000000, f18l5)]
noncomputable abbrev f18i {ρ : Type} (N : Nat) (c : Code) (p : Plan) (σ : St) (K : KT ρ) : Option ρ := iCode f18G tab f18B N c p σ K
noncomputable def f18c (n : Nat) : Code := codeN 99 (bodyOf Tryd.f18) n
theorem f18t1 N v0 (K : KT ρ) : f18i N (f18c 2) .n (f18s0 v0) (joinK (some f18l1) K) =
  spec_FormatInts.Z1 N v0 (fun v0 => K .nrm (f18s1 v0)) := by kernel_rfl
theorem f18t3 N v0 (K : KT ρ) : f18i N (f18c 5) .n (f18s1 v0) (joinK (some f18l2) K) =
  spec_FormatInts.Z3 N v0 (fun v0 v3 => K .nrm (f18s2 v0 v3)) := by kernel_rfl
theorem f18t6 N v0 v3 (K : KT ρ) : f18i N (f18c 19) .n (f18s2 v0 v3) (joinK (some f18l3) K) =
  spec_FormatInts.Z6 N v0 v3 (fun v0 v3 v4 => K .nrm (f18s3 v0 v3 v4)) := by kernel_rfl
theorem f18t9 N v0 v3 v4 (K : KT ρ) : f18i N (f18c 75) .n (f18s3 v0 v3 v4) (joinK (some f18l3) K) =
  spec_FormatInts.Z9 N v0 v3 v4 (fun v0 v3 v4 => K .nrm (f18s3 v0 v3 v4)) (fun v3 => K (.exit 0) (f18s4 v3)) := by kernel_rfl
noncomputable def f18p8 : Plan := .mk none (some f18l3) .n .n
noncomputable abbrev f18w8 {ρ : Type} (N M : Nat) (σ : St) (K : KT ρ) : Option ρ := loopC (fun σ K => f18i N (f18c 75) .n σ K) f18l3 M σ K
theorem f18t8L {ρ : Type} (N : Nat) (K : KT ρ) : ∀ (M : Nat) (v0 : LI) (v3 : ByteArray) (v4 : Int), f18w8 N M (f18s3 v0 v3 v4) K =
  spec_FormatInts.Z8L N (fun v3 => K (.exit 0) (f18s4 v3)) M v0 v3 v4
  | 0, _, _, _ => rfl
  | M + 1, v0, v3, v4 => viaRoundS (fun k => spec_FormatInts.Z9 N v0 v3 v4 k (fun v3 => K (.exit 0) (f18s4 v3))) (f18t9 N (K := seqK (fun σ => f18w8 N M σ K) K) ..) (fx3 fun v0 v3 v4 => f18t8L N K M v0 v3 v4) (by kernel_rfl)
theorem f18t8 N v0 v3 v4 (K : KT ρ) : f18i N (f18c 43) f18p8 (f18s3 v0 v3 v4) (joinK (some f18l4) K) =
  spec_FormatInts.Z8 N v0 v3 v4 (fun v3 => K (.exit 0) (f18s4 v3)) :=
 viaLoopS (by kernel_rfl) (f18t8L N (joinK (some f18l4) K) N v0 v3 v4) (by kernel_rfl)
noncomputable def f18p7 : Plan := .mk (some f18l4) none f18p8 .n
theorem f18t7 N v0 v3 v4 (K : KT ρ) : f18i N (f18c 27) f18p7 (f18s3 v0 v3 v4) (joinK (some f18l4) K) =
  spec_FormatInts.Z7 N v0 v3 v4 (fun v3 => K .nrm (f18s4 v3)) :=
 viaBlockS (by kernel_rfl) (f18t8 N (K := blockK 0 (joinK (some f18l4) K)) ..) (by kernel_rfl)
noncomputable def f18p5 : Plan := .mk (some f18l3) none .n f18p7
theorem f18t5 N v0 v3 (K : KT ρ) : f18i N (f18c 11) f18p5 (f18s2 v0 v3) (joinK (some f18l4) K) =
  spec_FormatInts.Z5 N v0 v3 (fun v3 => K .nrm (f18s4 v3)) :=
 viaSeqS (fun k => spec_FormatInts.Z6 N v0 v3 k) (by kernel_rfl) (f18t6 N (K := seqK (fun σ => f18i N (f18c 27) f18p7 σ (joinK (some f18l4) K)) (joinK (some f18l4) K)) ..) (fx3 fun v0 v3 v4 => f18t7 N v0 v3 v4 K) (by kernel_rfl)
theorem f18t10 N v3 (K : KT ρ) : f18i N (f18c 15) .n (f18s4 v3) (joinK (some f18lE) K) =
  spec_FormatInts.Z10 N v3 (fun v2 => K .ret (f18s5 v2)) := by kernel_rfl
noncomputable def f18p4 : Plan := .mk (some f18l4) none f18p5 .n
theorem f18t4 N v0 v3 (K : KT ρ) : f18i N (f18c 7) f18p4 (f18s2 v0 v3) (joinK (some f18lE) K) =
  spec_FormatInts.Z4 N v0 v3 (fun v2 => K .ret (f18s5 v2)) :=
 viaSeqS (fun k => spec_FormatInts.Z5 N v0 v3 k) (by kernel_rfl) (f18t5 N (K := seqK (fun σ => f18i N (f18c 15) .n σ (joinK (some f18lE) K)) (joinK (some f18lE) K)) ..) (funext fun v3 => f18t10 N v3 K) (by kernel_rfl)
noncomputable def f18p2 : Plan := .mk (some f18l2) none .n f18p4
theorem f18t2 N v0 (K : KT ρ) : f18i N (f18c 3) f18p2 (f18s1 v0) (joinK (some f18lE) K) =
  spec_FormatInts.Z2 N v0 (fun v2 => K .ret (f18s5 v2)) :=
 viaSeqS (fun k => spec_FormatInts.Z3 N v0 k) (by kernel_rfl) (f18t3 N (K := seqK (fun σ => f18i N (f18c 7) f18p4 σ (joinK (some f18lE) K)) (joinK (some f18lE) K)) ..) (fx2 fun v0 v3 => f18t4 N v0 v3 K) (by kernel_rfl)
noncomputable def f18p0 : Plan := .mk (some f18l1) none .n f18p2
theorem f18t0 N v0 (K : KT ρ) : f18i N (f18c 1) f18p0 (f18s0 v0) (joinK (some f18lE) K) =
  spec_FormatInts.Z0 N v0 (fun v2 => K .ret (f18s5 v2)) :=
 viaSeqS (fun k => spec_FormatInts.Z1 N v0 k) (by kernel_rfl) (f18t1 N (K := seqK (fun σ => f18i N (f18c 3) f18p2 σ (joinK (some f18lE) K)) (joinK (some f18lE) K)) ..) (funext fun v0 => f18t2 N v0 K) (by kernel_rfl)
theorem f18m (N : Nat) (v0 : LI) : f18i N (f18c 1) f18p0 (f18s0 v0) (joinK (some f18lE) (finK tab f18sig Tryd.f18.results.toList)) = spec_FormatInts.Z0 N v0 (fun v2 => some ((), (v2, ()))) :=
  (f18t0 N v0 (finK tab f18sig Tryd.f18.results.toList)).trans (by kernel_rfl)
theorem f18ok (h : spec_FormatInts.Spec) : EntryOk Tryd.prog 18 e18 :=
  entry_of_code (sig := f18sig) (c := (f18c 1)) (pl := f18p0) (je := (some f18lE)) (B := f18B) Tryd.func18 (by kernel_rfl) (by kernel_rfl) (by kernel_rfl) tabOk f18GOk (by kernel_rfl) (by kernel_rfl) (by kernel_rfl) (by kernel_rfl) fun X hb hp => by
    obtain ⟨v0, _⟩ := X
    obtain ⟨N, h⟩ := h v0 hb.1 hp
    exact ⟨N, (f18m N v0).trans (h N (Nat.le_refl N))⟩
theorem e18ok : EntryOk Tryd.prog 18 e18 := f18ok spec_FormatInts.ok
end Go.Fw
namespace Go.Fw
variable {ρ : Type}
open Go.Proofs
noncomputable def f11sig : Sig := ⟨[⟨.pair (.int .i64) (.pair (.int .i64) (.sl 3 (.int .i64))), true, false⟩], [⟨.str, false, false⟩]⟩
noncomputable def e11 : Entry := ⟨f11sig, none, fun X => ((), ((spec_FormatMatrix.g X.1), ()))⟩
noncomputable def f11G : Gm := addG (addG emptyG 18 e18) 26 e26
theorem f11GOk : GOk Tryd.prog f11G := ((GOk.nil).add e18ok (by kernel_rfl)).add e26ok (by kernel_rfl)
noncomputable def f11lE : Clean := ⟨[], [], [], [], []⟩
noncomputable def f11s0 (v0 : MT) : St := initSt f11sig.ps (v0, ())
noncomputable def f11s1 (v1_0 v1_1 : Int) (v1_2 : LI) : St := stOf [(1, xb 1)] [(1, (38, [yi v1_0, yi v1_1, .sn 3 tI v1_2 none]))] []
noncomputable def f11l1 : Clean := ⟨[1], [1], [], [], []⟩
noncomputable def f11s2 (v3 : ByteArray) (v1_0 v1_1 : Int) (v1_2 : LI) : St := stOf [(1, xb 1), (3, .c (.str v3))] [(1, (38, [yi v1_0, yi v1_1, .sn 3 tI v1_2 none]))] []
noncomputable def f11l2 : Clean := ⟨[1, 3], [1], [], [], []⟩
noncomputable def f11s3 (v3 : ByteArray) (v4 v1_0 v1_1 : Int) (v1_2 : LI) : St := stOf [(1, xb 1), (3, .c (.str v3)), (4, xi v4)] [(1, (38, [yi v1_0, yi v1_1, .sn 3 tI v1_2 none]))] []
noncomputable def f11l3 : Clean := ⟨[1, 3, 4], [1], [], [], []⟩
noncomputable def f11s4 (v3 : ByteArray) : St := stOf [(3, .c (.str v3))] [] []
noncomputable def f11l4 : Clean := ⟨[3], [], [], [], []⟩
noncomputable def f11s5 (v2 : ByteArray) : St := stOf [(2, .c (.str v2))] [] []
noncomputable def f11l5 : Clean := ⟨[2], [], [], [], []⟩
noncomputable def f11B : Nat → Option Clean := lookL [(0, f11l4), (1000000, f11l5)]
noncomputable abbrev f11i {ρ : Type} (N : Nat) (c : Code) (p : Plan) (σ : St) (K : KT ρ) : Option ρ := iCode f11G tab f11B N c p σ K
noncomputable def f11c (n : Nat) : Code := codeN 99 (bodyOf Tryd.f11) n
theorem f11t1 N v0 (K : KT ρ) : f11i N (f11c 2) .n (f11s0 v0) (joinK (some f11l1) K) =
  spec_FormatMatrix.Z1 N v0 (fun v1_0 v1_1 v1_2 => K .nrm (f11s1 v1_0 v1_1 v1_2)) := by kernel_rfl
theorem f11t3 N v1_0 v1_1 v1_2 (K : KT ρ) : f11i N (f11c 5) .n (f11s1 v1_0 v1_1 v1_2) (joinK (some f11l1) K) =
  spec_FormatMatrix.Z3 N v1_0 v1_1 v1_2 (fun v1_0 v1_1 v1_2 => K .nrm (f11s1 v1_0 v1_1 v1_2)) (fun v2 => K .ret (f11s5 v2)) := by kernel_rfl
theorem f11t5 N v1_0 v1_1 v1_2 (K : KT ρ) : f11i N (f11c 11) .n (f11s1 v1_0 v1_1 v1_2) (joinK (some f11l2) K) =
  spec_FormatMatrix.Z5 N v1_0 v1_1 v1_2 (fun v3 v1_0 v1_1 v1_2 => K .nrm (f11s2 v3 v1_0 v1_1 v1_2)) := by kernel_rfl
theorem f11t8 N v3 v1_0 v1_1 v1_2 (K : KT ρ) : f11i N (f11c 39) .n (f11s2 v3 v1_0 v1_1 v1_2) (joinK (some f11l3) K) =
  spec_FormatMatrix.Z8 N v3 v1_0 v1_1 v1_2 (fun v3 v4 v1_0 v1_1 v1_2 => K .nrm (f11s3 v3 v4 v1_0 v1_1 v1_2)) := by kernel_rfl
theorem f11t11 N v3 v4 v1_0 v1_1 v1_2 (K : KT ρ) : f11i N (f11c 151) .n (f11s3 v3 v4 v1_0 v1_1 v1_2) (joinK (some f11l3) K) =
  spec_FormatMatrix.Z11 N v3 v4 v1_0 v1_1 v1_2 (fun v3 v4 v1_0 v1_1 v1_2 => K .nrm (f11s3 v3 v4 v1_0 v1_1 v1_2)) (fun v3 => K (.exit 0) (f11s4 v3)) := by kernel_rfl
noncomputable def f11p10 : Plan := .mk none (some f11l3) .n .n
noncomputable abbrev f11w10 {ρ : Type} (N M : Nat) (σ : St) (K : KT ρ) : Option ρ := loopC (fun σ K => f11i N (f11c 151) .n σ K) f11l3 M σ K
theorem f11t10L {ρ : Type} (N : Nat) (K : KT ρ) : ∀ (M : Nat) (v3 : ByteArray) (v4 v1_0 v1_1 : Int) (v1_2 : LI), f11w10 N M (f11s3 v3 v4 v1_0 v1_1 v1_2) K =
  spec_FormatMatrix.Z10L N (fun v3 => K (.exit 0) (f11s4 v3)) M v3 v4 v1_0 v1_1 v1_2
  | 0, _, _, _, _, _ => rfl
  | M + 1, v3, v4, v1_0, v1_1, v1_2 => viaRoundS (fun k => spec_FormatMatrix.Z11 N v3 v4 v1_0 v1_1 v1_2 k (fun v3 => K (.exit 0) (f11s4 v3))) (f11t11 N (K := seqK (fun σ => f11w10 N M σ K) K) ..) (fx5 fun v3 v4 v1_0 v1_1 v1_2 => f11t10L N K M v3 v4 v1_0 v1_1 v1_2) (by kernel_rfl)
theorem f11t10 N v3 v4 v1_0 v1_1 v1_2 (K : KT ρ) : f11i N (f11c 87) f11p10 (f11s3 v3 v4 v1_0 v1_1 v1_2) (joinK (some f11l4) K) =
  spec_FormatMatrix.Z10 N v3 v4 v1_0 v1_1 v1_2 (fun v3 => K (.exit 0) (f11s4 v3)) :=
 viaLoopS (by kernel_rfl) (f11t10L N (joinK (some f11l4) K) N v3 v4 v1_0 v1_1 v1_2) (by kernel_rfl)
noncomputable def f11p9 : Plan := .mk (some f11l4) none f11p10 .n
theorem f11t9 N v3 v4 v1_0 v1_1 v1_2 (K : KT ρ) : f11i N (f11c 55) f11p9 (f11s3 v3 v4 v1_0 v1_1 v1_2) (joinK (some f11l4) K) =
  spec_FormatMatrix.Z9 N v3 v4 v1_0 v1_1 v1_2 (fun v3 => K .nrm (f11s4 v3)) :=
 viaBlockS (by kernel_rfl) (f11t10 N (K := blockK 0 (joinK (some f11l4) K)) ..) (by kernel_rfl)
noncomputable def f11p7 : Plan := .mk (some f11l3) none .n f11p9
theorem f11t7 N v3 v1_0 v1_1 v1_2 (K : KT ρ) : f11i N (f11c 23) f11p7 (f11s2 v3 v1_0 v1_1 v1_2) (joinK (some f11l4) K) =
  spec_FormatMatrix.Z7 N v3 v1_0 v1_1 v1_2 (fun v3 => K .nrm (f11s4 v3)) :=
 viaSeqS (fun k => spec_FormatMatrix.Z8 N v3 v1_0 v1_1 v1_2 k) (by kernel_rfl) (f11t8 N (K := seqK (fun σ => f11i N (f11c 55) f11p9 σ (joinK (some f11l4) K)) (joinK (some f11l4) K)) ..) (fx5 fun v3 v4 v1_0 v1_1 v1_2 => f11t9 N v3 v4 v1_0 v1_1 v1_2 K) (by kernel_rfl)
theorem f11t12 N v3 (K : KT ρ) : f11i N (f11c 31) .n (f11s4 v3) (joinK (some f11lE) K) =
  spec_FormatMatrix.Z12 N v3 (fun v2 => K .ret (f11s5 v2)) := by kernel_rfl
noncomputable def f11p6 : Plan := .mk (some f11l4) none f11p7 .n
theorem f11t6 N v3 v1_0 v1_1 v1_2 (K : KT ρ) : f11i N (f11c 15) f11p6 (f11s2 v3 v1_0 v1_1 v1_2) (joinK (some f11lE) K) =
  spec_FormatMatrix.Z6 N v3 v1_0 v1_1 v1_2 (fun v2 => K .ret (f11s5 v2)) :=
 viaSeqS (fun k => spec_FormatMatrix.Z7 N v3 v1_0 v1_1 v1_2 k) (by kernel_rfl) (f11t7 N (K := seqK (fun σ => f11i N (f11c 31) .n σ (joinK (some f11lE) K)) (joinK (some f11lE) K)) ..) (funext fun v3 => f11t12 N v3 K) (by kernel_rfl)
noncomputable def f11p4 : Plan := .mk (some f11l2) none .n f11p6
theorem f11t4 N v1_0 v1_1 v1_2 (K : KT ρ) : f11i N (f11c 7) f11p4 (f11s1 v1_0 v1_1 v1_2) (joinK (some f11lE) K) =
  spec_FormatMatrix.Z4 N v1_0 v1_1 v1_2 (fun v2 => K .ret (f11s5 v2)) :=
 viaSeqS (fun k => spec_FormatMatrix.Z5 N v1_0 v1_1 v1_2 k) (by kernel_rfl) (f11t5 N (K := seqK (fun σ => f11i N (f11c 15) f11p6 σ (joinK (some f11lE) K)) (joinK (some f11lE) K)) ..) (fx4 fun v3 v1_0 v1_1 v1_2 => f11t6 N v3 v1_0 v1_1 v1_2 K) (by kernel_rfl)
noncomputable def f11p2 : Plan := .mk (some f11l1) none .n f11p4
theorem f11t2 N v1_0 v1_1 v1_2 (K : KT ρ) : f11i N (f11c 3) f11p2 (f11s1 v1_0 v1_1 v1_2) (joinK (some f11lE) K) =
  spec_FormatMatrix.Z2 N v1_0 v1_1 v1_2 (fun v2 => K .ret (f11s5 v2)) :=
 viaSeqS (fun k => spec_FormatMatrix.Z3 N v1_0 v1_1 v1_2 k (fun v2 => K .ret (f11s5 v2))) (by kernel_rfl) (f11t3 N (K := seqK (fun σ => f11i N (f11c 7) f11p4 σ (joinK (some f11lE) K)) (joinK (some f11lE) K)) ..) (fx3 fun v1_0 v1_1 v1_2 => f11t4 N v1_0 v1_1 v1_2 K) (by kernel_rfl)
noncomputable def f11p0 : Plan := .mk (some f11l1) none .n f11p2
theorem f11t0 N v0 (K : KT ρ) : f11i N (f11c 1) f11p0 (f11s0 v0) (joinK (some f11lE) K) =
  spec_FormatMatrix.Z0 N v0 (fun v2 => K .ret (f11s5 v2)) :=
 viaSeqS (fun k => spec_FormatMatrix.Z1 N v0 k) (by kernel_rfl) (f11t1 N (K := seqK (fun σ => f11i N (f11c 3) f11p2 σ (joinK (some f11lE) K)) (joinK (some f11lE) K)) ..) (fx3 fun v1_0 v1_1 v1_2 => f11t2 N v1_0 v1_1 v1_2 K) (by kernel_rfl)
theorem f11m (N : Nat) (v0 : MT) : f11i N (f11c 1) f11p0 (f11s0 v0) (joinK (some f11lE) (finK tab f11sig Tryd.f11.results.toList)) = spec_FormatMatrix.Z0 N v0 (fun v2 => some ((), (v2, ()))) :=
  (f11t0 N v0 (finK tab f11sig Tryd.f11.results.toList)).trans (by kernel_rfl)
theorem f11ok (h : spec_FormatMatrix.Spec) : EntryOk Tryd.prog 11 e11 :=
  entry_of_code (sig := f11sig) (c := (f11c 1)) (pl := f11p0) (je := (some f11lE)) (B := f11B) Tryd.func11 (by kernel_rfl) (by kernel_rfl) (by kernel_rfl) tabOk f11GOk (by kernel_rfl) (by kernel_rfl) (by kernel_rfl) (by kernel_rfl) fun X hb hp => by
    obtain ⟨v0, _⟩ := X
    obtain ⟨N, h⟩ := h v0 hb.1
    exact ⟨N, (f11m N v0).trans (h N (Nat.le_refl N))⟩
theorem e11ok : EntryOk Tryd.prog 11 e11 := f11ok spec_FormatMatrix.ok
end Go.Fw
namespace Go.Fw
variable {ρ : Type}
open Go.Proofs
noncomputable def f35sig : Sig := ⟨[⟨.int .i64, false, false⟩, ⟨.int .i64, false, false⟩, ⟨.int .i64, false, false⟩], [⟨.bool, false, false⟩]⟩
noncomputable def e35 : Entry := ⟨f35sig, none, fun X => ((), ((impl_within.g X.1 X.2.1 X.2.2.1), ()))⟩
noncomputable def f35G : Gm := emptyG
theorem f35GOk : GOk Tryd.prog f35G := GOk.nil
noncomputable def f35lE : Clean := ⟨[], [], [], [], []⟩
noncomputable def f35s0 (v0 v1 v2 : Int) : St := initSt f35sig.ps (v0, (v1, (v2, ())))
noncomputable def f35s1 (v6 : Bool) : St := stOf [(6, xB v6)] [] []
noncomputable def f35l1 : Clean := ⟨[6], [], [], [], []⟩
noncomputable def f35B : Nat → Option Clean := lookL [(1000000, f35l1)]
noncomputable abbrev f35i {ρ : Type} (N : Nat) (c : Code) (p : Plan) (σ : St) (K : KT ρ) : Option ρ := iCode f35G tab f35B N c p σ K
noncomputable def f35c (n : Nat) : Code := codeN 99 (bodyOf Tryd.f35) n
theorem f35t0 N v0 v1 v2 (K : KT ρ) : f35i N (f35c 1) .n (f35s0 v0 v1 v2) (joinK (some f35lE) K) =
  impl_within.Z0 N v0 v1 v2 (fun v6 => K .ret (f35s1 v6)) := by kernel_rfl
theorem f35m (N : Nat) (v0 v1 v2 : Int) : f35i N (f35c 1) .n (f35s0 v0 v1 v2) (joinK (some f35lE) (finK tab f35sig Tryd.f35.results.toList)) = impl_within.Z0 N v0 v1 v2 (fun v6 => some ((), (v6, ()))) :=
  (f35t0 N v0 v1 v2 (finK tab f35sig Tryd.f35.results.toList)).trans (by kernel_rfl)
theorem f35ok (h : impl_within.Spec) : EntryOk Tryd.prog 35 e35 :=
  entry_of_code (sig := f35sig) (c := (f35c 1)) (pl := .n) (je := (some f35lE)) (B := f35B) Tryd.func35 (by kernel_rfl) (by kernel_rfl) (by kernel_rfl) tabOk f35GOk (by kernel_rfl) (by kernel_rfl) (by kernel_rfl) (by kernel_rfl) fun X hb hp => by
    obtain ⟨v0, v1, v2, _⟩ := X
    obtain ⟨N, h⟩ := h v0 v1 v2
    exact ⟨N, (f35m N v0 v1 v2).trans (h N (Nat.le_refl N))⟩
theorem e35ok : EntryOk Tryd.prog 35 e35 := f35ok impl_within.ok
end Go.Fw
namespace Go.Fw
variable {ρ : Type}
open Go.Proofs
noncomputable def f58sig : Sig := ⟨[⟨.int .i64, false, false⟩], [⟨.bool, false, false⟩]⟩
noncomputable def e58 : Entry := ⟨f58sig, none, fun X => ((), ((impl_shaped_1.g X.1), ()))⟩
noncomputable def f58G : Gm := addG emptyG 35 e35
theorem f58GOk : GOk Tryd.prog f58G := (GOk.nil).add e35ok (by kernel_rfl)
noncomputable def f58lE : Clean := ⟨[], [], [], [], []⟩
noncomputable def f58s0 (v0 : Int) : St := initSt f58sig.ps (v0, ())
noncomputable def f58s1 (v2 : Bool) : St := stOf [(2, xB v2)] [] []
noncomputable def f58l1 : Clean := ⟨[2], [], [], [], []⟩
noncomputable def f58B : Nat → Option Clean := lookL [(1000000, f58l1)]
noncomputable abbrev f58i {ρ : Type} (N : Nat) (c : Code) (p : Plan) (σ : St) (K : KT ρ) : Option ρ := iCode f58G tab f58B N c p σ K
noncomputable def f58c (n : Nat) : Code := codeN 99 (bodyOf Tryd.f58) n
theorem f58t0 N v0 (K : KT ρ) : f58i N (f58c 1) .n (f58s0 v0) (joinK (some f58lE) K) =
  impl_shaped_1.Z0 N v0 (fun v2 => K .ret (f58s1 v2)) := by kernel_rfl
theorem f58m (N : Nat) (v0 : Int) : f58i N (f58c 1) .n (f58s0 v0) (joinK (some f58lE) (finK tab f58sig Tryd.f58.results.toList)) = impl_shaped_1.Z0 N v0 (fun v2 => some ((), (v2, ()))) :=
  (f58t0 N v0 (finK tab f58sig Tryd.f58.results.toList)).trans (by kernel_rfl)
theorem f58ok (h : impl_shaped_1.Spec) : EntryOk Tryd.prog 58 e58 :=
  entry_of_code (sig := f58sig) (c := (f58c 1)) (pl := .n) (je := (some f58lE)) (B := f58B) Tryd.func58 (by kernel_rfl) (by kernel_rfl) (by kernel_rfl) tabOk f58GOk (by kernel_rfl) (by kernel_rfl) (by kernel_rfl) (by kernel_rfl) fun X hb hp => by
    obtain ⟨v0, _⟩ := X
    obtain ⟨N, h⟩ := h v0
    exact ⟨N, (f58m N v0).trans (h N (Nat.le_refl N))⟩
theorem e58ok : EntryOk Tryd.prog 58 e58 := f58ok impl_shaped_1.ok
end Go.Fw
namespace Go.Fw
variable {ρ : Type}
open Go.Proofs
noncomputable def f61bsig : Sig := ⟨[⟨.sl 3 (.int .i64), false, false⟩, ⟨.fnc 58, false, false⟩], [⟨.int .i64, false, false⟩]⟩
noncomputable def e61b : Entry := ⟨f61bsig, none, fun X => ((), ((slices_IndexFunc_int_int_shaped.g X.1 X.2.1), ()))⟩
noncomputable def f61bG : Gm := addG emptyG 58 e58
theorem f61bGOk : GOk Tryd.prog f61bG := (GOk.nil).add e58ok (by kernel_rfl)
noncomputable def f61blE : Clean := ⟨[], [], [], [], []⟩
noncomputable def f61bs0 (v0 : LI) (v1 : Unit) : St := initSt f61bsig.ps (v0, (v1, ()))
noncomputable def f61bs1 (v0 : LI) : St := stOf [(0, .c (.sn 3 tI v0 none)), (1, .c (.fn 58 []))] [] []
noncomputable def f61bl1 : Clean := ⟨[0, 1], [], [], [], []⟩
noncomputable def f61bs2 (v0 : LI) (v7 v8 : Int) : St := stOf [(0, .c (.sn 3 tI v0 none)), (1, .c (.fn 58 [])), (7, xi v7), (8, xi v8)] [] []
noncomputable def f61bl2 : Clean := ⟨[0, 1, 7, 8], [], [], [], []⟩
noncomputable def f61bs3  : St := stOf [] [] []
noncomputable def f61bl3 : Clean := ⟨[], [], [], [], []⟩
noncomputable def f61bs4 (v4 : Int) : St := stOf [(4, xi v4)] [] []
noncomputable def f61bl4 : Clean := ⟨[4], [], [], [], []⟩
noncomputable def f61bB : Nat → Option Clean := lookL [(0, f61bl3), (1000000, f61bl4)]
noncomputable abbrev f61bi {ρ : Type} (N : Nat) (c : Code) (p : Plan) (σ : St) (K : KT ρ) : Option ρ := iCode f61bG tab f61bB N c p σ K
noncomputable def f61bc (n : Nat) : Code := codeN 99 (bodyOf Tryd.f61) n
theorem f61bt1 N v0 v1 (K : KT ρ) : f61bi N (f61bc 2) .n (f61bs0 v0 v1) (joinK (some f61bl1) K) =
  slices_IndexFunc_int_int_shaped.Z1 N v0 v1 (fun v0 => K .nrm (f61bs1 v0)) := by kernel_rfl
theorem f61bt4 N v0 (K : KT ρ) : f61bi N (f61bc 9) .n (f61bs1 v0) (joinK (some f61bl2) K) =
  slices_IndexFunc_int_int_shaped.Z4 N v0 (fun v0 v7 v8 => K .nrm (f61bs2 v0 v7 v8)) := by kernel_rfl
theorem f61bt7 N v0 v7 v8 (K : KT ρ) : f61bi N (f61bc 37) .n (f61bs2 v0 v7 v8) (joinK (some f61bl2) K) =
  slices_IndexFunc_int_int_shaped.Z7 N v0 v7 v8 (fun v0 v7 v8 => K .nrm (f61bs2 v0 v7 v8)) (K (.exit 0) f61bs3) (fun v4 => K .ret (f61bs4 v4)) := by kernel_rfl
noncomputable def f61bp6 : Plan := .mk none (some f61bl2) .n .n
noncomputable abbrev f61bw6 {ρ : Type} (N M : Nat) (σ : St) (K : KT ρ) : Option ρ := loopC (fun σ K => f61bi N (f61bc 37) .n σ K) f61bl2 M σ K
theorem f61bt6L {ρ : Type} (N : Nat) (K : KT ρ) : ∀ (M : Nat) (v0 : LI) (v7 v8 : Int), f61bw6 N M (f61bs2 v0 v7 v8) K =
  slices_IndexFunc_int_int_shaped.Z6L N (K (.exit 0) f61bs3) (fun v4 => K .ret (f61bs4 v4)) M v0 v7 v8
  | 0, _, _, _ => rfl
  | M + 1, v0, v7, v8 => viaRoundS (fun k => slices_IndexFunc_int_int_shaped.Z7 N v0 v7 v8 k (K (.exit 0) f61bs3) (fun v4 => K .ret (f61bs4 v4))) (f61bt7 N (K := seqK (fun σ => f61bw6 N M σ K) K) ..) (fx3 fun v0 v7 v8 => f61bt6L N K M v0 v7 v8) (by kernel_rfl)
theorem f61bt6 N v0 v7 v8 (K : KT ρ) : f61bi N (f61bc 21) f61bp6 (f61bs2 v0 v7 v8) (joinK (some f61bl3) K) =
  slices_IndexFunc_int_int_shaped.Z6 N v0 v7 v8 (K (.exit 0) f61bs3) (fun v4 => K .ret (f61bs4 v4)) :=
 viaLoopS (by kernel_rfl) (f61bt6L N (joinK (some f61bl3) K) N v0 v7 v8) (by kernel_rfl)
noncomputable def f61bp5 : Plan := .mk (some f61bl3) none f61bp6 .n
theorem f61bt5 N v0 v7 v8 (K : KT ρ) : f61bi N (f61bc 13) f61bp5 (f61bs2 v0 v7 v8) (joinK (some f61bl3) K) =
  slices_IndexFunc_int_int_shaped.Z5 N v0 v7 v8 (K .nrm f61bs3) (fun v4 => K .ret (f61bs4 v4)) :=
 viaBlockS (by kernel_rfl) (f61bt6 N (K := blockK 0 (joinK (some f61bl3) K)) ..) (by kernel_rfl)
noncomputable def f61bp3 : Plan := .mk (some f61bl2) none .n f61bp5
theorem f61bt3 N v0 (K : KT ρ) : f61bi N (f61bc 5) f61bp3 (f61bs1 v0) (joinK (some f61bl3) K) =
  slices_IndexFunc_int_int_shaped.Z3 N v0 (K .nrm f61bs3) (fun v4 => K .ret (f61bs4 v4)) :=
 viaSeqS (fun k => slices_IndexFunc_int_int_shaped.Z4 N v0 k) (by kernel_rfl) (f61bt4 N (K := seqK (fun σ => f61bi N (f61bc 13) f61bp5 σ (joinK (some f61bl3) K)) (joinK (some f61bl3) K)) ..) (fx3 fun v0 v7 v8 => f61bt5 N v0 v7 v8 K) (by kernel_rfl)
theorem f61bt8 N  (K : KT ρ) : f61bi N (f61bc 7) .n f61bs3 (joinK (some f61blE) K) =
  slices_IndexFunc_int_int_shaped.Z8 N (fun v4 => K .ret (f61bs4 v4)) := by kernel_rfl
noncomputable def f61bp2 : Plan := .mk (some f61bl3) none f61bp3 .n
theorem f61bt2 N v0 (K : KT ρ) : f61bi N (f61bc 3) f61bp2 (f61bs1 v0) (joinK (some f61blE) K) =
  slices_IndexFunc_int_int_shaped.Z2 N v0 (fun v4 => K .ret (f61bs4 v4)) :=
 viaSeqS (fun k => slices_IndexFunc_int_int_shaped.Z3 N v0 k (fun v4 => K .ret (f61bs4 v4))) (by kernel_rfl) (f61bt3 N (K := seqK (fun σ => f61bi N (f61bc 7) .n σ (joinK (some f61blE) K)) (joinK (some f61blE) K)) ..) (f61bt8 N K) (by kernel_rfl)
noncomputable def f61bp0 : Plan := .mk (some f61bl1) none .n f61bp2
theorem f61bt0 N v0 v1 (K : KT ρ) : f61bi N (f61bc 1) f61bp0 (f61bs0 v0 v1) (joinK (some f61blE) K) =
  slices_IndexFunc_int_int_shaped.Z0 N v0 v1 (fun v4 => K .ret (f61bs4 v4)) :=
 viaSeqS (fun k => slices_IndexFunc_int_int_shaped.Z1 N v0 v1 k) (by kernel_rfl) (f61bt1 N (K := seqK (fun σ => f61bi N (f61bc 3) f61bp2 σ (joinK (some f61blE) K)) (joinK (some f61blE) K)) ..) (funext fun v0 => f61bt2 N v0 K) (by kernel_rfl)
theorem f61bm (N : Nat) (v0 : LI) (v1 : Unit) : f61bi N (f61bc 1) f61bp0 (f61bs0 v0 v1) (joinK (some f61blE) (finK tab f61bsig Tryd.f61.results.toList)) = slices_IndexFunc_int_int_shaped.Z0 N v0 v1 (fun v4 => some ((), (v4, ()))) :=
  (f61bt0 N v0 v1 (finK tab f61bsig Tryd.f61.results.toList)).trans (by kernel_rfl)
theorem f61bok (h : slices_IndexFunc_int_int_shaped.Spec) : EntryOk Tryd.prog 61 e61b :=
  entry_of_code (sig := f61bsig) (c := (f61bc 1)) (pl := f61bp0) (je := (some f61blE)) (B := f61bB) Tryd.func61 (by kernel_rfl) (by kernel_rfl) (by kernel_rfl) tabOk f61bGOk (by kernel_rfl) (by kernel_rfl) (by kernel_rfl) (by kernel_rfl) fun X hb hp => by
    obtain ⟨v0, v1, _⟩ := X
    obtain ⟨N, h⟩ := h v0 v1 hb.1
    exact ⟨N, (f61bm N v0 v1).trans (h N (Nat.le_refl N))⟩
theorem e61bok : EntryOk Tryd.prog 61 e61b := f61bok slices_IndexFunc_int_int_shaped.ok
end Go.Fw
namespace Go.Fw
variable {ρ : Type}
open Go.Proofs
noncomputable def f48bsig : Sig := ⟨[⟨.sl 3 (.int .i64), false, false⟩, ⟨.fnc 58, false, false⟩], [⟨.bool, false, false⟩]⟩
noncomputable def e48b : Entry := ⟨f48bsig, none, fun X => ((), ((slices_ContainsFunc_int_int_shaped.g X.1 X.2.1), ()))⟩
noncomputable def f48bG : Gm := addG emptyG 61 e61b
theorem f48bGOk : GOk Tryd.prog f48bG := (GOk.nil).add e61bok (by kernel_rfl)
noncomputable def f48blE : Clean := ⟨[], [], [], [], []⟩
noncomputable def f48bs0 (v0 : LI) (v1 : Unit) : St := initSt f48bsig.ps (v0, (v1, ()))
noncomputable def f48bs1 (v4 : Bool) : St := stOf [(4, xB v4)] [] []
noncomputable def f48bl1 : Clean := ⟨[4], [], [], [], []⟩
noncomputable def f48bB : Nat → Option Clean := lookL [(1000000, f48bl1)]
noncomputable abbrev f48bi {ρ : Type} (N : Nat) (c : Code) (p : Plan) (σ : St) (K : KT ρ) : Option ρ := iCode f48bG tab f48bB N c p σ K
noncomputable def f48bc (n : Nat) : Code := codeN 99 (bodyOf Tryd.f48) n
theorem f48bt0 N v0 v1 (K : KT ρ) : f48bi N (f48bc 1) .n (f48bs0 v0 v1) (joinK (some f48blE) K) =
  slices_ContainsFunc_int_int_shaped.Z0 N v0 v1 (fun v4 => K .ret (f48bs1 v4)) := by kernel_rfl
theorem f48bm (N : Nat) (v0 : LI) (v1 : Unit) : f48bi N (f48bc 1) .n (f48bs0 v0 v1) (joinK (some f48blE) (finK tab f48bsig Tryd.f48.results.toList)) = slices_ContainsFunc_int_int_shaped.Z0 N v0 v1 (fun v4 => some ((), (v4, ()))) :=
  (f48bt0 N v0 v1 (finK tab f48bsig Tryd.f48.results.toList)).trans (by kernel_rfl)
theorem f48bok (h : slices_ContainsFunc_int_int_shaped.Spec) : EntryOk Tryd.prog 48 e48b :=
  entry_of_code (sig := f48bsig) (c := (f48bc 1)) (pl := .n) (je := (some f48blE)) (B := f48bB) Tryd.func48 (by kernel_rfl) (by kernel_rfl) (by kernel_rfl) tabOk f48bGOk (by kernel_rfl) (by kernel_rfl) (by kernel_rfl) (by kernel_rfl) fun X hb hp => by
    obtain ⟨v0, v1, _⟩ := X
    obtain ⟨N, h⟩ := h v0 v1 hb.1
    exact ⟨N, (f48bm N v0 v1).trans (h N (Nat.le_refl N))⟩
theorem e48bok : EntryOk Tryd.prog 48 e48b := f48bok slices_ContainsFunc_int_int_shaped.ok
end Go.Fw
namespace Go.Fw
variable {ρ : Type}
open Go.Proofs
noncomputable def f46sig : Sig := ⟨[⟨.pair (.int .i64) (.pair (.int .i64) (.sl 3 (.int .i64))), true, false⟩], [⟨.bool, false, false⟩]⟩
noncomputable def e46 : Entry := ⟨f46sig, none, fun X => ((), ((impl_shaped.g X.1), ()))⟩
noncomputable def f46G : Gm := addG (addG emptyG 35 e35) 48 e48b
theorem f46GOk : GOk Tryd.prog f46G := ((GOk.nil).add e35ok (by kernel_rfl)).add e48bok (by kernel_rfl)
noncomputable def f46lE : Clean := ⟨[], [], [], [], []⟩
noncomputable def f46s0 (v0 : MT) : St := initSt f46sig.ps (v0, ())
noncomputable def f46s1 (v2 : Bool) : St := stOf [(2, xB v2)] [] []
noncomputable def f46l1 : Clean := ⟨[2], [], [], [], []⟩
noncomputable def f46B : Nat → Option Clean := lookL [(1000000, f46l1)]
noncomputable abbrev f46i {ρ : Type} (N : Nat) (c : Code) (p : Plan) (σ : St) (K : KT ρ) : Option ρ := iCode f46G tab f46B N c p σ K
noncomputable def f46c (n : Nat) : Code := codeN 99 (bodyOf Tryd.f46) n
theorem f46t0 N v0 (K : KT ρ) : f46i N (f46c 1) .n (f46s0 v0) (joinK (some f46lE) K) =
  impl_shaped.Z0 N v0 (fun v2 => K .ret (f46s1 v2)) := by kernel_rfl
theorem f46m (N : Nat) (v0 : MT) : f46i N (f46c 1) .n (f46s0 v0) (joinK (some f46lE) (finK tab f46sig Tryd.f46.results.toList)) = impl_shaped.Z0 N v0 (fun v2 => some ((), (v2, ()))) :=
  (f46t0 N v0 (finK tab f46sig Tryd.f46.results.toList)).trans (by kernel_rfl)
theorem f46ok (h : impl_shaped.Spec) : EntryOk Tryd.prog 46 e46 :=
  entry_of_code (sig := f46sig) (c := (f46c 1)) (pl := .n) (je := (some f46lE)) (B := f46B) Tryd.func46 (by kernel_rfl) (by kernel_rfl) (by kernel_rfl) tabOk f46GOk (by kernel_rfl) (by kernel_rfl) (by kernel_rfl) (by kernel_rfl) fun X hb hp => by
    obtain ⟨v0, _⟩ := X
    obtain ⟨N, h⟩ := h v0 hb.1
    exact ⟨N, (f46m N v0).trans (h N (Nat.le_refl N))⟩
theorem e46ok : EntryOk Tryd.prog 46 e46 := f46ok impl_shaped.ok
end Go.Fw
namespace Go.Fw
variable {ρ : Type}
open Go.Proofs
noncomputable def f59sig : Sig := ⟨[⟨.pair (.int .i64) (.pair (.int .i64) (.sl 3 (.int .i64))), true, false⟩, ⟨.int .i64, false, false⟩, ⟨.int .i64, false, false⟩], [⟨.int .i64, false, false⟩]⟩
noncomputable def e59 : Entry := ⟨f59sig, (some fun X => impl_Matrix_at.P X.1 X.2.1 X.2.2.1), fun X => ((), ((impl_Matrix_at.g X.1 X.2.1 X.2.2.1), ()))⟩
noncomputable def f59G : Gm := emptyG
theorem f59GOk : GOk Tryd.prog f59G := GOk.nil
noncomputable def f59lE : Clean := ⟨[], [], [], [], []⟩
noncomputable def f59s0 (v0 : MT) (v1 v2 : Int) : St := initSt f59sig.ps (v0, (v1, (v2, ())))
noncomputable def f59s1 (v6 : Int) : St := stOf [(6, xi v6)] [] []
noncomputable def f59l1 : Clean := ⟨[6], [], [], [], []⟩
noncomputable def f59B : Nat → Option Clean := lookL [(1000000, f59l1)]
noncomputable abbrev f59i {ρ : Type} (N : Nat) (c : Code) (p : Plan) (σ : St) (K : KT ρ) : Option ρ := iCode f59G tab f59B N c p σ K
noncomputable def f59c (n : Nat) : Code := codeN 99 (bodyOf Tryd.f59) n
theorem f59t0 N v0 v1 v2 (K : KT ρ) : f59i N (f59c 1) .n (f59s0 v0 v1 v2) (joinK (some f59lE) K) =
  impl_Matrix_at.Z0 N v0 v1 v2 (fun v6 => K .ret (f59s1 v6)) := by kernel_rfl
theorem f59m (N : Nat) (v0 : MT) (v1 v2 : Int) : f59i N (f59c 1) .n (f59s0 v0 v1 v2) (joinK (some f59lE) (finK tab f59sig Tryd.f59.results.toList)) = impl_Matrix_at.Z0 N v0 v1 v2 (fun v6 => some ((), (v6, ()))) :=
  (f59t0 N v0 v1 v2 (finK tab f59sig Tryd.f59.results.toList)).trans (by kernel_rfl)
theorem f59ok (h : impl_Matrix_at.Spec) : EntryOk Tryd.prog 59 e59 :=
  entry_of_code (sig := f59sig) (c := (f59c 1)) (pl := .n) (je := (some f59lE)) (B := f59B) Tryd.func59 (by kernel_rfl) (by kernel_rfl) (by kernel_rfl) tabOk f59GOk (by kernel_rfl) (by kernel_rfl) (by kernel_rfl) (by kernel_rfl) fun X hb hp => by
    obtain ⟨v0, v1, v2, _⟩ := X
    obtain ⟨N, h⟩ := h v0 v1 v2 hb.1 hp
    exact ⟨N, (f59m N v0 v1 v2).trans (h N (Nat.le_refl N))⟩
theorem e59ok : EntryOk Tryd.prog 59 e59 := f59ok impl_Matrix_at.ok
end Go.Fw
namespace Go.Fw
variable {ρ : Type}
open Go.Proofs
noncomputable def f60sig : Sig := ⟨[⟨.int .i64, false, false⟩, ⟨.int .i64, false, false⟩], [⟨.int .i64, false, false⟩]⟩
noncomputable def e60 : Entry := ⟨f60sig, (some fun X => impl_gcd.P X.1 X.2.1), fun X => ((), ((impl_gcd.g X.1 X.2.1), ()))⟩
noncomputable def f60G : Gm := emptyG
theorem f60GOk : GOk Tryd.prog f60G := GOk.nil
noncomputable def f60lE : Clean := ⟨[], [], [], [], []⟩
noncomputable def f60s0 (v0 v1 : Int) : St := initSt f60sig.ps (v0, (v1, ()))
noncomputable def f60s1 (v0 v1 : Int) : St := stOf [(0, xi v0), (1, xi v1)] [] []
noncomputable def f60l1 : Clean := ⟨[0, 1], [], [], [], []⟩
noncomputable def f60s2 (v0 : Int) : St := stOf [(0, xi v0)] [] []
noncomputable def f60l2 : Clean := ⟨[0], [], [], [], []⟩
noncomputable def f60s3 (v4 : Int) : St := stOf [(4, xi v4)] [] []
noncomputable def f60l3 : Clean := ⟨[4], [], [], [], []⟩
noncomputable def f60B : Nat → Option Clean := lookL [(0, f60l2), (1000000, f60l3)]
noncomputable abbrev f60i {ρ : Type} (N : Nat) (c : Code) (p : Plan) (σ : St) (K : KT ρ) : Option ρ := iCode f60G tab f60B N c p σ K
noncomputable def f60c (n : Nat) : Code := codeN 99 (bodyOf Tryd.f60) n
theorem f60t1 N v0 v1 (K : KT ρ) : f60i N (f60c 2) .n (f60s0 v0 v1) (joinK (some f60l1) K) =
  impl_gcd.Z1 N v0 v1 (fun v0 v1 => K .nrm (f60s1 v0 v1)) := by kernel_rfl
theorem f60t5 N v0 v1 (K : KT ρ) : f60i N (f60c 17) .n (f60s1 v0 v1) (joinK (some f60l1) K) =
  impl_gcd.Z5 N v0 v1 (fun v0 v1 => K .nrm (f60s1 v0 v1)) (fun v0 => K (.exit 0) (f60s2 v0)) := by kernel_rfl
noncomputable def f60p4 : Plan := .mk none (some f60l1) .n .n
noncomputable abbrev f60w4 {ρ : Type} (N M : Nat) (σ : St) (K : KT ρ) : Option ρ := loopC (fun σ K => f60i N (f60c 17) .n σ K) f60l1 M σ K
theorem f60t4L {ρ : Type} (N : Nat) (K : KT ρ) : ∀ (M : Nat) (v0 v1 : Int), f60w4 N M (f60s1 v0 v1) K =
  impl_gcd.Z4L N (fun v0 => K (.exit 0) (f60s2 v0)) M v0 v1
  | 0, _, _ => rfl
  | M + 1, v0, v1 => viaRoundS (fun k => impl_gcd.Z5 N v0 v1 k (fun v0 => K (.exit 0) (f60s2 v0))) (f60t5 N (K := seqK (fun σ => f60w4 N M σ K) K) ..) (fx2 fun v0 v1 => f60t4L N K M v0 v1) (by kernel_rfl)
theorem f60t4 N v0 v1 (K : KT ρ) : f60i N (f60c 9) f60p4 (f60s1 v0 v1) (joinK (some f60l2) K) =
  impl_gcd.Z4 N v0 v1 (fun v0 => K (.exit 0) (f60s2 v0)) :=
 viaLoopS (by kernel_rfl) (f60t4L N (joinK (some f60l2) K) N v0 v1) (by kernel_rfl)
noncomputable def f60p3 : Plan := .mk (some f60l2) none f60p4 .n
theorem f60t3 N v0 v1 (K : KT ρ) : f60i N (f60c 5) f60p3 (f60s1 v0 v1) (joinK (some f60l2) K) =
  impl_gcd.Z3 N v0 v1 (fun v0 => K .nrm (f60s2 v0)) :=
 viaBlockS (by kernel_rfl) (f60t4 N (K := blockK 0 (joinK (some f60l2) K)) ..) (by kernel_rfl)
theorem f60t6 N v0 (K : KT ρ) : f60i N (f60c 7) .n (f60s2 v0) (joinK (some f60lE) K) =
  impl_gcd.Z6 N v0 (fun v4 => K .ret (f60s3 v4)) := by kernel_rfl
noncomputable def f60p2 : Plan := .mk (some f60l2) none f60p3 .n
theorem f60t2 N v0 v1 (K : KT ρ) : f60i N (f60c 3) f60p2 (f60s1 v0 v1) (joinK (some f60lE) K) =
  impl_gcd.Z2 N v0 v1 (fun v4 => K .ret (f60s3 v4)) :=
 viaSeqS (fun k => impl_gcd.Z3 N v0 v1 k) (by kernel_rfl) (f60t3 N (K := seqK (fun σ => f60i N (f60c 7) .n σ (joinK (some f60lE) K)) (joinK (some f60lE) K)) ..) (funext fun v0 => f60t6 N v0 K) (by kernel_rfl)
noncomputable def f60p0 : Plan := .mk (some f60l1) none .n f60p2
theorem f60t0 N v0 v1 (K : KT ρ) : f60i N (f60c 1) f60p0 (f60s0 v0 v1) (joinK (some f60lE) K) =
  impl_gcd.Z0 N v0 v1 (fun v4 => K .ret (f60s3 v4)) :=
 viaSeqS (fun k => impl_gcd.Z1 N v0 v1 k) (by kernel_rfl) (f60t1 N (K := seqK (fun σ => f60i N (f60c 3) f60p2 σ (joinK (some f60lE) K)) (joinK (some f60lE) K)) ..) (fx2 fun v0 v1 => f60t2 N v0 v1 K) (by kernel_rfl)
theorem f60m (N : Nat) (v0 v1 : Int) : f60i N (f60c 1) f60p0 (f60s0 v0 v1) (joinK (some f60lE) (finK tab f60sig Tryd.f60.results.toList)) = impl_gcd.Z0 N v0 v1 (fun v4 => some ((), (v4, ()))) :=
  (f60t0 N v0 v1 (finK tab f60sig Tryd.f60.results.toList)).trans (by kernel_rfl)
theorem f60ok (h : impl_gcd.Spec) : EntryOk Tryd.prog 60 e60 :=
  entry_of_code (sig := f60sig) (c := (f60c 1)) (pl := f60p0) (je := (some f60lE)) (B := f60B) Tryd.func60 (by kernel_rfl) (by kernel_rfl) (by kernel_rfl) tabOk f60GOk (by kernel_rfl) (by kernel_rfl) (by kernel_rfl) (by kernel_rfl) fun X hb hp => by
    obtain ⟨v0, v1, _⟩ := X
    obtain ⟨N, h⟩ := h v0 v1 hp
    exact ⟨N, (f60m N v0 v1).trans (h N (Nat.le_refl N))⟩
theorem e60ok : EntryOk Tryd.prog 60 e60 := f60ok impl_gcd.ok
end Go.Fw
namespace Go.Fw
variable {ρ : Type}
open Go.Proofs
noncomputable def f47sig : Sig := ⟨[⟨.pair (.int .i64) (.pair (.int .i64) (.sl 3 (.int .i64))), true, false⟩], [⟨.sl 3 (.int .i64), false, true⟩]⟩
noncomputable def e47 : Entry := ⟨f47sig, (some fun X => impl_factors.P X.1), fun X => ((), ((impl_factors.g X.1), ()))⟩
noncomputable def f47G : Gm := addG (addG emptyG 59 e59) 60 e60
theorem f47GOk : GOk Tryd.prog f47G := ((GOk.nil).add e59ok (by kernel_rfl)).add e60ok (by kernel_rfl)
noncomputable def f47lE : Clean := ⟨[], [], [], [], []⟩
noncomputable def f47s0 (v0 : MT) : St := initSt f47sig.ps (v0, ())
noncomputable def f47s1 (v1_0 v1_1 : Int) (v1_2 : LI) : St := stOf [(1, xb 1)] [(1, (38, [yi v1_0, yi v1_1, .sn 3 tI v1_2 none]))] []
noncomputable def f47l1 : Clean := ⟨[1], [1], [], [], []⟩
noncomputable def f47s2 (v3 v4 : LI) (v1_0 v1_1 : Int) (v1_2 : LI) : St := stOf [(1, xb 1), (3, xo 1000192), (4, xo 1000256)] [(1, (38, [yi v1_0, yi v1_1, .sn 3 tI v1_2 none]))] [(1000192, (⟨3, .int .i64, v3, true, false⟩ : Row)), (1000256, (⟨3, .int .i64, v4, true, false⟩ : Row))]
noncomputable def f47l2 : Clean := ⟨[1, 3, 4], [1], [], [], [(⟨false, 3, 0⟩, 1000192), (⟨false, 4, 0⟩, 1000256)]⟩
noncomputable def f47s3 (v3 v4 v5 : LI) (v1_0 v1_1 : Int) (v1_2 : LI) : St := stOf [(1, xb 1), (3, xo 1000192), (4, xo 1000256), (5, xo 1000320)] [(1, (38, [yi v1_0, yi v1_1, .sn 3 tI v1_2 none]))] [(1000192, (⟨3, .int .i64, v3, true, false⟩ : Row)), (1000256, (⟨3, .int .i64, v4, true, false⟩ : Row)), (1000320, (⟨3, .int .i64, v5, true, false⟩ : Row))]
noncomputable def f47l3 : Clean := ⟨[1, 3, 4, 5], [1], [], [], [(⟨false, 3, 0⟩, 1000192), (⟨false, 4, 0⟩, 1000256), (⟨false, 5, 0⟩, 1000320)]⟩
noncomputable def f47s4 (v3 v4 v5 : LI) (v34 v35 v1_0 v1_1 : Int) (v1_2 : LI) : St := stOf [(1, xb 1), (3, xo 1000192), (4, xo 1000256), (5, xo 1000320), (34, xi v34), (35, xi v35)] [(1, (38, [yi v1_0, yi v1_1, .sn 3 tI v1_2 none]))] [(1000192, (⟨3, .int .i64, v3, true, false⟩ : Row)), (1000256, (⟨3, .int .i64, v4, true, false⟩ : Row)), (1000320, (⟨3, .int .i64, v5, true, false⟩ : Row))]
noncomputable def f47l4 : Clean := ⟨[1, 3, 4, 5, 34, 35], [1], [], [], [(⟨false, 3, 0⟩, 1000192), (⟨false, 4, 0⟩, 1000256), (⟨false, 5, 0⟩, 1000320)]⟩
noncomputable def f47s5 (v3 v4 v5 : LI) (v34 v35 : Int) (v36 : Bool) (v1_0 v1_1 : Int) (v1_2 : LI) : St := stOf [(1, xb 1), (3, xo 1000192), (4, xo 1000256), (5, xo 1000320), (34, xi v34), (35, xi v35), (36, xB v36)] [(1, (38, [yi v1_0, yi v1_1, .sn 3 tI v1_2 none]))] [(1000192, (⟨3, .int .i64, v3, true, false⟩ : Row)), (1000256, (⟨3, .int .i64, v4, true, false⟩ : Row)), (1000320, (⟨3, .int .i64, v5, true, false⟩ : Row))]
noncomputable def f47l5 : Clean := ⟨[1, 3, 4, 5, 34, 35, 36], [1], [], [], [(⟨false, 3, 0⟩, 1000192), (⟨false, 4, 0⟩, 1000256), (⟨false, 5, 0⟩, 1000320)]⟩
noncomputable def f47s6 (v3 v4 v5 : LI) (v6 v34 v35 v1_0 v1_1 : Int) (v1_2 : LI) : St := stOf [(1, xb 1), (3, xo 1000192), (4, xo 1000256), (5, xo 1000320), (6, xi v6), (34, xi v34), (35, xi v35)] [(1, (38, [yi v1_0, yi v1_1, .sn 3 tI v1_2 none]))] [(1000192, (⟨3, .int .i64, v3, true, false⟩ : Row)), (1000256, (⟨3, .int .i64, v4, true, false⟩ : Row)), (1000320, (⟨3, .int .i64, v5, true, false⟩ : Row))]
noncomputable def f47l6 : Clean := ⟨[1, 3, 4, 5, 6, 34, 35], [1], [], [], [(⟨false, 3, 0⟩, 1000192), (⟨false, 4, 0⟩, 1000256), (⟨false, 5, 0⟩, 1000320)]⟩
noncomputable def f47s7 (v3 v4 v5 v7 : LI) (v34 v35 v1_0 v1_1 : Int) (v1_2 : LI) : St := stOf [(1, xb 1), (3, xo 1000192), (4, xo 1000256), (5, xo 1000320), (7, xo 1000448), (34, xi v34), (35, xi v35)] [(1, (38, [yi v1_0, yi v1_1, .sn 3 tI v1_2 none]))] [(1000192, (⟨3, .int .i64, v3, true, false⟩ : Row)), (1000256, (⟨3, .int .i64, v4, true, false⟩ : Row)), (1000320, (⟨3, .int .i64, v5, true, false⟩ : Row)), (1000448, (⟨3, .int .i64, v7, true, false⟩ : Row))]
noncomputable def f47l7 : Clean := ⟨[1, 3, 4, 5, 7, 34, 35], [1], [], [], [(⟨false, 3, 0⟩, 1000192), (⟨false, 4, 0⟩, 1000256), (⟨false, 5, 0⟩, 1000320), (⟨false, 7, 0⟩, 1000448)]⟩
noncomputable def f47s8 (v3 v4 v5 v7 : LI) (v8 v34 v35 v1_0 v1_1 : Int) (v1_2 : LI) : St := stOf [(1, xb 1), (3, xo 1000192), (4, xo 1000256), (5, xo 1000320), (7, xo 1000448), (8, xi v8), (34, xi v34), (35, xi v35)] [(1, (38, [yi v1_0, yi v1_1, .sn 3 tI v1_2 none]))] [(1000192, (⟨3, .int .i64, v3, true, false⟩ : Row)), (1000256, (⟨3, .int .i64, v4, true, false⟩ : Row)), (1000320, (⟨3, .int .i64, v5, true, false⟩ : Row)), (1000448, (⟨3, .int .i64, v7, true, false⟩ : Row))]
noncomputable def f47l8 : Clean := ⟨[1, 3, 4, 5, 7, 8, 34, 35], [1], [], [], [(⟨false, 3, 0⟩, 1000192), (⟨false, 4, 0⟩, 1000256), (⟨false, 5, 0⟩, 1000320), (⟨false, 7, 0⟩, 1000448)]⟩
noncomputable def f47s9 (v3 v4 v5 v7 : LI) (v8 v9 v34 v35 v1_0 v1_1 : Int) (v1_2 : LI) : St := stOf [(1, xb 1), (3, xo 1000192), (4, xo 1000256), (5, xo 1000320), (7, xo 1000448), (8, xi v8), (9, xi v9), (34, xi v34), (35, xi v35)] [(1, (38, [yi v1_0, yi v1_1, .sn 3 tI v1_2 none]))] [(1000192, (⟨3, .int .i64, v3, true, false⟩ : Row)), (1000256, (⟨3, .int .i64, v4, true, false⟩ : Row)), (1000320, (⟨3, .int .i64, v5, true, false⟩ : Row)), (1000448, (⟨3, .int .i64, v7, true, false⟩ : Row))]
noncomputable def f47l9 : Clean := ⟨[1, 3, 4, 5, 7, 8, 9, 34, 35], [1], [], [], [(⟨false, 3, 0⟩, 1000192), (⟨false, 4, 0⟩, 1000256), (⟨false, 5, 0⟩, 1000320), (⟨false, 7, 0⟩, 1000448)]⟩
noncomputable def f47s10 (v3 v4 v5 v7 : LI) (v8 v9 v34 v35 v62 v63 v1_0 v1_1 : Int) (v1_2 : LI) : St := stOf [(1, xb 1), (3, xo 1000192), (4, xo 1000256), (5, xo 1000320), (7, xo 1000448), (8, xi v8), (9, xi v9), (34, xi v34), (35, xi v35), (62, xi v62), (63, xi v63)] [(1, (38, [yi v1_0, yi v1_1, .sn 3 tI v1_2 none]))] [(1000192, (⟨3, .int .i64, v3, true, false⟩ : Row)), (1000256, (⟨3, .int .i64, v4, true, false⟩ : Row)), (1000320, (⟨3, .int .i64, v5, true, false⟩ : Row)), (1000448, (⟨3, .int .i64, v7, true, false⟩ : Row))]
noncomputable def f47l10 : Clean := ⟨[1, 3, 4, 5, 7, 8, 9, 34, 35, 62, 63], [1], [], [], [(⟨false, 3, 0⟩, 1000192), (⟨false, 4, 0⟩, 1000256), (⟨false, 5, 0⟩, 1000320), (⟨false, 7, 0⟩, 1000448)]⟩
noncomputable def f47s11 (v3 v4 v5 v7 : LI) (v8 v9 v34 v35 v62 v63 : Int) (v64 : Bool) (v1_0 v1_1 : Int) (v1_2 : LI) : St := stOf [(1, xb 1), (3, xo 1000192), (4, xo 1000256), (5, xo 1000320), (7, xo 1000448), (8, xi v8), (9, xi v9), (34, xi v34), (35, xi v35), (62, xi v62), (63, xi v63), (64, xB v64)] [(1, (38, [yi v1_0, yi v1_1, .sn 3 tI v1_2 none]))] [(1000192, (⟨3, .int .i64, v3, true, false⟩ : Row)), (1000256, (⟨3, .int .i64, v4, true, false⟩ : Row)), (1000320, (⟨3, .int .i64, v5, true, false⟩ : Row)), (1000448, (⟨3, .int .i64, v7, true, false⟩ : Row))]
noncomputable def f47l11 : Clean := ⟨[1, 3, 4, 5, 7, 8, 9, 34, 35, 62, 63, 64], [1], [], [], [(⟨false, 3, 0⟩, 1000192), (⟨false, 4, 0⟩, 1000256), (⟨false, 5, 0⟩, 1000320), (⟨false, 7, 0⟩, 1000448)]⟩
noncomputable def f47s12 (v3 v4 v5 v7 : LI) (v8 v9 v10 v34 v35 v62 v63 v1_0 v1_1 : Int) (v1_2 : LI) : St := stOf [(1, xb 1), (3, xo 1000192), (4, xo 1000256), (5, xo 1000320), (7, xo 1000448), (8, xi v8), (9, xi v9), (10, xi v10), (34, xi v34), (35, xi v35), (62, xi v62), (63, xi v63)] [(1, (38, [yi v1_0, yi v1_1, .sn 3 tI v1_2 none]))] [(1000192, (⟨3, .int .i64, v3, true, false⟩ : Row)), (1000256, (⟨3, .int .i64, v4, true, false⟩ : Row)), (1000320, (⟨3, .int .i64, v5, true, false⟩ : Row)), (1000448, (⟨3, .int .i64, v7, true, false⟩ : Row))]
noncomputable def f47l12 : Clean := ⟨[1, 3, 4, 5, 7, 8, 9, 10, 34, 35, 62, 63], [1], [], [], [(⟨false, 3, 0⟩, 1000192), (⟨false, 4, 0⟩, 1000256), (⟨false, 5, 0⟩, 1000320), (⟨false, 7, 0⟩, 1000448)]⟩
noncomputable def f47s13 (v3 v4 v5 v7 : LI) (v8 v9 v10 v11 v12 v34 v35 v62 v63 v1_0 v1_1 : Int) (v1_2 : LI) : St := stOf [(1, xb 1), (3, xo 1000192), (4, xo 1000256), (5, xo 1000320), (7, xo 1000448), (8, xi v8), (9, xi v9), (10, xi v10), (11, xi v11), (12, xi v12), (34, xi v34), (35, xi v35), (62, xi v62), (63, xi v63)] [(1, (38, [yi v1_0, yi v1_1, .sn 3 tI v1_2 none]))] [(1000192, (⟨3, .int .i64, v3, true, false⟩ : Row)), (1000256, (⟨3, .int .i64, v4, true, false⟩ : Row)), (1000320, (⟨3, .int .i64, v5, true, false⟩ : Row)), (1000448, (⟨3, .int .i64, v7, true, false⟩ : Row))]
noncomputable def f47l13 : Clean := ⟨[1, 3, 4, 5, 7, 8, 9, 10, 11, 12, 34, 35, 62, 63], [1], [], [], [(⟨false, 3, 0⟩, 1000192), (⟨false, 4, 0⟩, 1000256), (⟨false, 5, 0⟩, 1000320), (⟨false, 7, 0⟩, 1000448)]⟩
noncomputable def f47s14 (v3 v4 v5 v7 : LI) (v16 v34 v35 v1_0 v1_1 : Int) (v1_2 : LI) : St := stOf [(1, xb 1), (3, xo 1000192), (4, xo 1000256), (5, xo 1000320), (7, xo 1000448), (16, xi v16), (34, xi v34), (35, xi v35)] [(1, (38, [yi v1_0, yi v1_1, .sn 3 tI v1_2 none]))] [(1000192, (⟨3, .int .i64, v3, true, false⟩ : Row)), (1000256, (⟨3, .int .i64, v4, true, false⟩ : Row)), (1000320, (⟨3, .int .i64, v5, true, false⟩ : Row)), (1000448, (⟨3, .int .i64, v7, true, false⟩ : Row))]
noncomputable def f47l14 : Clean := ⟨[1, 3, 4, 5, 7, 16, 34, 35], [1], [], [], [(⟨false, 3, 0⟩, 1000192), (⟨false, 4, 0⟩, 1000256), (⟨false, 5, 0⟩, 1000320), (⟨false, 7, 0⟩, 1000448)]⟩
noncomputable def f47s15 (v3 v4 v5 v7 : LI) (v16 v34 v35 v159 v160 v1_0 v1_1 : Int) (v1_2 : LI) : St := stOf [(1, xb 1), (3, xo 1000192), (4, xo 1000256), (5, xo 1000320), (7, xo 1000448), (16, xi v16), (34, xi v34), (35, xi v35), (158, xo 1000448), (159, xi v159), (160, xi v160)] [(1, (38, [yi v1_0, yi v1_1, .sn 3 tI v1_2 none]))] [(1000192, (⟨3, .int .i64, v3, true, false⟩ : Row)), (1000256, (⟨3, .int .i64, v4, true, false⟩ : Row)), (1000320, (⟨3, .int .i64, v5, true, false⟩ : Row)), (1000448, (⟨3, .int .i64, v7, true, false⟩ : Row))]
noncomputable def f47l15 : Clean := ⟨[1, 3, 4, 5, 7, 16, 34, 35, 158, 159, 160], [1], [], [], [(⟨false, 3, 0⟩, 1000192), (⟨false, 4, 0⟩, 1000256), (⟨false, 5, 0⟩, 1000320), (⟨false, 7, 0⟩, 1000448)]⟩
noncomputable def f47s16 (v3 v4 v5 v7 : LI) (v16 v19 v34 v35 v1_0 v1_1 : Int) (v1_2 : LI) : St := stOf [(1, xb 1), (3, xo 1000192), (4, xo 1000256), (5, xo 1000320), (7, xo 1000448), (16, xi v16), (19, xi v19), (34, xi v34), (35, xi v35)] [(1, (38, [yi v1_0, yi v1_1, .sn 3 tI v1_2 none]))] [(1000192, (⟨3, .int .i64, v3, true, false⟩ : Row)), (1000256, (⟨3, .int .i64, v4, true, false⟩ : Row)), (1000320, (⟨3, .int .i64, v5, true, false⟩ : Row)), (1000448, (⟨3, .int .i64, v7, true, false⟩ : Row))]
noncomputable def f47l16 : Clean := ⟨[1, 3, 4, 5, 7, 16, 19, 34, 35], [1], [], [], [(⟨false, 3, 0⟩, 1000192), (⟨false, 4, 0⟩, 1000256), (⟨false, 5, 0⟩, 1000320), (⟨false, 7, 0⟩, 1000448)]⟩
noncomputable def f47s17 (v3 v4 v5 v7 : LI) (v16 v19 v34 v35 v179 v180 v1_0 v1_1 : Int) (v1_2 : LI) : St := stOf [(1, xb 1), (3, xo 1000192), (4, xo 1000256), (5, xo 1000320), (7, xo 1000448), (16, xi v16), (19, xi v19), (34, xi v34), (35, xi v35), (178, xo 1000448), (179, xi v179), (180, xi v180)] [(1, (38, [yi v1_0, yi v1_1, .sn 3 tI v1_2 none]))] [(1000192, (⟨3, .int .i64, v3, true, false⟩ : Row)), (1000256, (⟨3, .int .i64, v4, true, false⟩ : Row)), (1000320, (⟨3, .int .i64, v5, true, false⟩ : Row)), (1000448, (⟨3, .int .i64, v7, true, false⟩ : Row))]
noncomputable def f47l17 : Clean := ⟨[1, 3, 4, 5, 7, 16, 19, 34, 35, 178, 179, 180], [1], [], [], [(⟨false, 3, 0⟩, 1000192), (⟨false, 4, 0⟩, 1000256), (⟨false, 5, 0⟩, 1000320), (⟨false, 7, 0⟩, 1000448)]⟩
noncomputable def f47s18 (v3 v4 v5 v7 : LI) (v19 v34 v35 v1_0 v1_1 : Int) (v1_2 : LI) : St := stOf [(1, xb 1), (3, xo 1000192), (4, xo 1000256), (5, xo 1000320), (7, xo 1000448), (19, xi v19), (34, xi v34), (35, xi v35)] [(1, (38, [yi v1_0, yi v1_1, .sn 3 tI v1_2 none]))] [(1000192, (⟨3, .int .i64, v3, true, false⟩ : Row)), (1000256, (⟨3, .int .i64, v4, true, false⟩ : Row)), (1000320, (⟨3, .int .i64, v5, true, false⟩ : Row)), (1000448, (⟨3, .int .i64, v7, true, false⟩ : Row))]
noncomputable def f47l18 : Clean := ⟨[1, 3, 4, 5, 7, 19, 34, 35], [1], [], [], [(⟨false, 3, 0⟩, 1000192), (⟨false, 4, 0⟩, 1000256), (⟨false, 5, 0⟩, 1000320), (⟨false, 7, 0⟩, 1000448)]⟩
noncomputable def f47s19 (v3 v4 v5 v205 : LI) (v19 v34 v35 v206 v207 v1_0 v1_1 : Int) (v1_2 : LI) : St := stOf [(1, xb 1), (3, xo 1000192), (4, xo 1000256), (5, xo 1000320), (19, xi v19), (34, xi v34), (35, xi v35), (205, xo 1013120), (206, xi v206), (207, xi v207)] [(1, (38, [yi v1_0, yi v1_1, .sn 3 tI v1_2 none]))] [(1000192, (⟨3, .int .i64, v3, true, false⟩ : Row)), (1000256, (⟨3, .int .i64, v4, true, false⟩ : Row)), (1000320, (⟨3, .int .i64, v5, true, false⟩ : Row)), (1013120, (⟨3, .int .i64, v205, true, false⟩ : Row))]
noncomputable def f47l19 : Clean := ⟨[1, 3, 4, 5, 19, 34, 35, 205, 206, 207], [1], [], [], [(⟨false, 3, 0⟩, 1000192), (⟨false, 4, 0⟩, 1000256), (⟨false, 5, 0⟩, 1000320), (⟨false, 205, 0⟩, 1013120)]⟩
noncomputable def f47s20 (v5 : LI) : St := stOf [(5, xo 1000320)] [] [(1000320, (⟨3, .int .i64, v5, true, false⟩ : Row))]
noncomputable def f47l20 : Clean := ⟨[5], [], [], [], [(⟨false, 5, 0⟩, 1000320)]⟩
noncomputable def f47s21 (v2 : LI) : St := stOf [(2, xo 1001000128)] [] [(1001000128, (⟨3, .int .i64, v2, true, true⟩ : Row))]
noncomputable def f47l21 : Clean := ⟨[2], [], [⟨⟨false, 2, 0⟩, 30000000, 3, .int .i64, true⟩], [], [(⟨false, 2, 0⟩, 1001000128)]⟩
noncomputable def f47B : Nat → Option Clean := lookL [(5, f47l10), (4, f47l8), (3, f47l8), (2, f47l7), (6, f47l14), (8, f47l18), (10, f47l4), (1, f47l4), (0, f47l20), (1000000, f47l21)]
noncomputable abbrev f47i {ρ : Type} (N : Nat) (c : Code) (p : Plan) (σ : St) (K : KT ρ) : Option ρ := iCode f47G tab f47B N c p σ K
noncomputable def f47c (n : Nat) : Code := codeN 99 (bodyOf Tryd.f47) n
theorem f47t1 N v0 (K : KT ρ) : f47i N (f47c 2) .n (f47s0 v0) (joinK (some f47l1) K) =
  impl_factors.Z1 N v0 (fun v1_0 v1_1 v1_2 => K .nrm (f47s1 v1_0 v1_1 v1_2)) := by kernel_rfl
theorem f47t3 N v1_0 v1_1 v1_2 (K : KT ρ) : f47i N (f47c 5) .n (f47s1 v1_0 v1_1 v1_2) (joinK (some f47l2) K) =
  impl_factors.Z3 N v1_0 v1_1 v1_2 (fun v3 v4 v1_0 v1_1 v1_2 => K .nrm (f47s2 v3 v4 v1_0 v1_1 v1_2)) := by kernel_rfl
theorem f47t5 N v3 v4 v1_0 v1_1 v1_2 (K : KT ρ) : f47i N (f47c 11) .n (f47s2 v3 v4 v1_0 v1_1 v1_2) (joinK (some f47l3) K) =
  impl_factors.Z5 N v3 v4 v1_0 v1_1 v1_2 (fun v3 v4 v5 v1_0 v1_1 v1_2 => K .nrm (f47s3 v3 v4 v5 v1_0 v1_1 v1_2)) := by kernel_rfl
theorem f47t8 N v3 v4 v5 v1_0 v1_1 v1_2 (K : KT ρ) : f47i N (f47c 39) .n (f47s3 v3 v4 v5 v1_0 v1_1 v1_2) (joinK (some f47l4) K) =
  impl_factors.Z8 N v3 v4 v5 v1_0 v1_1 v1_2 (fun v3 v4 v5 v34 v35 v1_0 v1_1 v1_2 => K .nrm (f47s4 v3 v4 v5 v34 v35 v1_0 v1_1 v1_2)) := by kernel_rfl
theorem f47t12 N v3 v4 v5 v34 v35 v1_0 v1_1 v1_2 (K : KT ρ) : f47i N (f47c 279) .n (f47s4 v3 v4 v5 v34 v35 v1_0 v1_1 v1_2) (joinK (some f47l5) K) =
  impl_factors.Z12 N v3 v4 v5 v34 v35 v1_0 v1_1 v1_2 (fun v3 v4 v5 v34 v35 v36 v1_0 v1_1 v1_2 => K .nrm (f47s5 v3 v4 v5 v34 v35 v36 v1_0 v1_1 v1_2)) := by kernel_rfl
theorem f47t14 N v3 v4 v5 v34 v35 v36 v1_0 v1_1 v1_2 (K : KT ρ) : f47i N (f47c 663) .n (f47s5 v3 v4 v5 v34 v35 v36 v1_0 v1_1 v1_2) (joinK (some f47l4) K) =
  impl_factors.Z14 N v3 v4 v5 v34 v35 v36 v1_0 v1_1 v1_2 (fun v3 v4 v5 v34 v35 v1_0 v1_1 v1_2 => K .nrm (f47s4 v3 v4 v5 v34 v35 v1_0 v1_1 v1_2)) (fun v5 => K (.exit 0) (f47s20 v5)) := by kernel_rfl
theorem f47t18 N v3 v4 v5 v34 v35 v1_0 v1_1 v1_2 (K : KT ρ) : f47i N (f47c 4503) .n (f47s4 v3 v4 v5 v34 v35 v1_0 v1_1 v1_2) (joinK (some f47l6) K) =
  impl_factors.Z18 N v3 v4 v5 v34 v35 v1_0 v1_1 v1_2 (fun v3 v4 v5 v6 v34 v35 v1_0 v1_1 v1_2 => K .nrm (f47s6 v3 v4 v5 v6 v34 v35 v1_0 v1_1 v1_2)) := by kernel_rfl
theorem f47t20 N v3 v4 v5 v6 v34 v35 v1_0 v1_1 v1_2 (K : KT ρ) : f47i N (f47c 10647) .n (f47s6 v3 v4 v5 v6 v34 v35 v1_0 v1_1 v1_2) (joinK (some f47l6) K) =
  impl_factors.Z20 N v3 v4 v5 v6 v34 v35 v1_0 v1_1 v1_2 (fun v3 v4 v5 v6 v34 v35 v1_0 v1_1 v1_2 => K .nrm (f47s6 v3 v4 v5 v6 v34 v35 v1_0 v1_1 v1_2)) (fun v3 v4 v5 v34 v35 v1_0 v1_1 v1_2 => K (.exit 1) (f47s4 v3 v4 v5 v34 v35 v1_0 v1_1 v1_2)) := by kernel_rfl
theorem f47t22 N v3 v4 v5 v6 v34 v35 v1_0 v1_1 v1_2 (K : KT ρ) : f47i N (f47c 22935) .n (f47s6 v3 v4 v5 v6 v34 v35 v1_0 v1_1 v1_2) (joinK (some f47l6) K) =
  impl_factors.Z22 N v3 v4 v5 v6 v34 v35 v1_0 v1_1 v1_2 (fun v3 v4 v5 v6 v34 v35 v1_0 v1_1 v1_2 => K .nrm (f47s6 v3 v4 v5 v6 v34 v35 v1_0 v1_1 v1_2)) := by kernel_rfl
theorem f47t24 N v3 v4 v5 v6 v34 v35 v1_0 v1_1 v1_2 (K : KT ρ) : f47i N (f47c 47511) .n (f47s6 v3 v4 v5 v6 v34 v35 v1_0 v1_1 v1_2) (joinK (some f47l7) K) =
  impl_factors.Z24 N v3 v4 v5 v6 v34 v35 v1_0 v1_1 v1_2 (fun v3 v4 v5 v7 v34 v35 v1_0 v1_1 v1_2 => K .nrm (f47s7 v3 v4 v5 v7 v34 v35 v1_0 v1_1 v1_2)) := by kernel_rfl
theorem f47t27 N v3 v4 v5 v7 v34 v35 v1_0 v1_1 v1_2 (K : KT ρ) : f47i N (f47c 162199) .n (f47s7 v3 v4 v5 v7 v34 v35 v1_0 v1_1 v1_2) (joinK (some f47l8) K) =
  impl_factors.Z27 N v3 v4 v5 v7 v34 v35 v1_0 v1_1 v1_2 (fun v3 v4 v5 v7 v8 v34 v35 v1_0 v1_1 v1_2 => K .nrm (f47s8 v3 v4 v5 v7 v8 v34 v35 v1_0 v1_1 v1_2)) := by kernel_rfl
theorem f47t31 N v3 v4 v5 v7 v8 v34 v35 v1_0 v1_1 v1_2 (K : KT ρ) : f47i N (f47c 1145239) .n (f47s8 v3 v4 v5 v7 v8 v34 v35 v1_0 v1_1 v1_2) (joinK (some f47l8) K) =
  impl_factors.Z31 N v3 v4 v5 v7 v8 v34 v35 v1_0 v1_1 v1_2 (fun v3 v4 v5 v7 v8 v34 v35 v1_0 v1_1 v1_2 => K .nrm (f47s8 v3 v4 v5 v7 v8 v34 v35 v1_0 v1_1 v1_2)) (fun v3 v4 v5 v7 v34 v35 v1_0 v1_1 v1_2 => K (.exit 2) (f47s7 v3 v4 v5 v7 v34 v35 v1_0 v1_1 v1_2)) := by kernel_rfl
theorem f47t35 N v3 v4 v5 v7 v8 v34 v35 v1_0 v1_1 v1_2 (K : KT ρ) : f47i N (f47c 9009559) .n (f47s8 v3 v4 v5 v7 v8 v34 v35 v1_0 v1_1 v1_2) (joinK (some f47l9) K) =
  impl_factors.Z35 N v3 v4 v5 v7 v8 v34 v35 v1_0 v1_1 v1_2 (fun v3 v4 v5 v7 v8 v9 v34 v35 v1_0 v1_1 v1_2 => K .nrm (f47s9 v3 v4 v5 v7 v8 v9 v34 v35 v1_0 v1_1 v1_2)) := by kernel_rfl
theorem f47t37 N v3 v4 v5 v7 v8 v9 v34 v35 v1_0 v1_1 v1_2 (K : KT ρ) : f47i N (f47c 21592471) .n (f47s9 v3 v4 v5 v7 v8 v9 v34 v35 v1_0 v1_1 v1_2) (joinK (some f47l10) K) =
  impl_factors.Z37 N v3 v4 v5 v7 v8 v9 v34 v35 v1_0 v1_1 v1_2 (fun v3 v4 v5 v7 v8 v9 v34 v35 v62 v63 v1_0 v1_1 v1_2 => K .nrm (f47s10 v3 v4 v5 v7 v8 v9 v34 v35 v62 v63 v1_0 v1_1 v1_2)) := by kernel_rfl
theorem f47t41 N v3 v4 v5 v7 v8 v9 v34 v35 v62 v63 v1_0 v1_1 v1_2 (K : KT ρ) : f47i N (f47c 147421591) .n (f47s10 v3 v4 v5 v7 v8 v9 v34 v35 v62 v63 v1_0 v1_1 v1_2) (joinK (some f47l11) K) =
  impl_factors.Z41 N v3 v4 v5 v7 v8 v9 v34 v35 v62 v63 v1_0 v1_1 v1_2 (fun v3 v4 v5 v7 v8 v9 v34 v35 v62 v63 v64 v1_0 v1_1 v1_2 => K .nrm (f47s11 v3 v4 v5 v7 v8 v9 v34 v35 v62 v63 v64 v1_0 v1_1 v1_2)) := by kernel_rfl
theorem f47t43 N v3 v4 v5 v7 v8 v9 v34 v35 v62 v63 v64 v1_0 v1_1 v1_2 (K : KT ρ) : f47i N (f47c 348748183) .n (f47s11 v3 v4 v5 v7 v8 v9 v34 v35 v62 v63 v64 v1_0 v1_1 v1_2) (joinK (some f47l10) K) =
  impl_factors.Z43 N v3 v4 v5 v7 v8 v9 v34 v35 v62 v63 v64 v1_0 v1_1 v1_2 (fun v3 v4 v5 v7 v8 v9 v34 v35 v62 v63 v1_0 v1_1 v1_2 => K .nrm (f47s10 v3 v4 v5 v7 v8 v9 v34 v35 v62 v63 v1_0 v1_1 v1_2)) (fun v3 v4 v5 v7 v8 v34 v35 v1_0 v1_1 v1_2 => K (.exit 4) (f47s8 v3 v4 v5 v7 v8 v34 v35 v1_0 v1_1 v1_2)) := by kernel_rfl
theorem f47t47 N v3 v4 v5 v7 v8 v9 v34 v35 v62 v63 v1_0 v1_1 v1_2 (K : KT ρ) : f47i N (f47c 2362014103) .n (f47s10 v3 v4 v5 v7 v8 v9 v34 v35 v62 v63 v1_0 v1_1 v1_2) (joinK (some f47l12) K) =
  impl_factors.Z47 N v3 v4 v5 v7 v8 v9 v34 v35 v62 v63 v1_0 v1_1 v1_2 (fun v3 v4 v5 v7 v8 v9 v10 v34 v35 v62 v63 v1_0 v1_1 v1_2 => K .nrm (f47s12 v3 v4 v5 v7 v8 v9 v10 v34 v35 v62 v63 v1_0 v1_1 v1_2)) := by kernel_rfl
theorem f47t49 N v3 v4 v5 v7 v8 v9 v10 v34 v35 v62 v63 v1_0 v1_1 v1_2 (K : KT ρ) : f47i N (f47c 5583239575) .n (f47s12 v3 v4 v5 v7 v8 v9 v10 v34 v35 v62 v63 v1_0 v1_1 v1_2) (joinK (some f47l13) K) =
  impl_factors.Z49 N v3 v4 v5 v7 v8 v9 v10 v34 v35 v62 v63 v1_0 v1_1 v1_2 (fun v3 v4 v5 v7 v8 v9 v10 v11 v12 v34 v35 v62 v63 v1_0 v1_1 v1_2 => K .nrm (f47s13 v3 v4 v5 v7 v8 v9 v10 v11 v12 v34 v35 v62 v63 v1_0 v1_1 v1_2)) := by kernel_rfl
theorem f47t51 N v3 v4 v5 v7 v8 v9 v10 v11 v12 v34 v35 v62 v63 v1_0 v1_1 v1_2 (K : KT ρ) : f47i N (f47c 12025690519) .n (f47s13 v3 v4 v5 v7 v8 v9 v10 v11 v12 v34 v35 v62 v63 v1_0 v1_1 v1_2) (joinK (some f47l13) K) =
  impl_factors.Z51 N v3 v4 v5 v7 v8 v9 v10 v11 v12 v34 v35 v62 v63 v1_0 v1_1 v1_2 (fun v3 v4 v5 v7 v8 v9 v10 v11 v12 v34 v35 v62 v63 v1_0 v1_1 v1_2 => K .nrm (f47s13 v3 v4 v5 v7 v8 v9 v10 v11 v12 v34 v35 v62 v63 v1_0 v1_1 v1_2)) (fun v3 v4 v5 v7 v8 v9 v34 v35 v62 v63 v1_0 v1_1 v1_2 => K (.exit 5) (f47s10 v3 v4 v5 v7 v8 v9 v34 v35 v62 v63 v1_0 v1_1 v1_2)) := by kernel_rfl
theorem f47t52 N v3 v4 v5 v7 v8 v9 v10 v11 v12 v34 v35 v62 v63 v1_0 v1_1 v1_2 (K : KT ρ) : f47i N (f47c 16320657815) .n (f47s13 v3 v4 v5 v7 v8 v9 v10 v11 v12 v34 v35 v62 v63 v1_0 v1_1 v1_2) (joinK (some f47l10) K) =
  impl_factors.Z52 N v3 v4 v5 v7 v8 v9 v10 v11 v12 v34 v35 v62 v63 v1_0 v1_1 v1_2 (fun v3 v4 v5 v7 v8 v9 v34 v35 v62 v63 v1_0 v1_1 v1_2 => K .nrm (f47s10 v3 v4 v5 v7 v8 v9 v34 v35 v62 v63 v1_0 v1_1 v1_2)) (fun v2 => K .ret (f47s21 v2)) := by kernel_rfl
noncomputable def f47p50 : Plan := .mk (some f47l13) none .n .n
theorem f47t50 N v3 v4 v5 v7 v8 v9 v10 v11 v12 v34 v35 v62 v63 v1_0 v1_1 v1_2 (K : KT ρ) : f47i N (f47c 7730723223) f47p50 (f47s13 v3 v4 v5 v7 v8 v9 v10 v11 v12 v34 v35 v62 v63 v1_0 v1_1 v1_2) (joinK (some f47l10) K) =
  impl_factors.Z50 N v3 v4 v5 v7 v8 v9 v10 v11 v12 v34 v35 v62 v63 v1_0 v1_1 v1_2 (fun v3 v4 v5 v7 v8 v9 v34 v35 v62 v63 v1_0 v1_1 v1_2 => K .nrm (f47s10 v3 v4 v5 v7 v8 v9 v34 v35 v62 v63 v1_0 v1_1 v1_2)) (fun v3 v4 v5 v7 v8 v9 v34 v35 v62 v63 v1_0 v1_1 v1_2 => K (.exit 5) (f47s10 v3 v4 v5 v7 v8 v9 v34 v35 v62 v63 v1_0 v1_1 v1_2)) (fun v2 => K .ret (f47s21 v2)) :=
 viaSeqS (fun k => impl_factors.Z51 N v3 v4 v5 v7 v8 v9 v10 v11 v12 v34 v35 v62 v63 v1_0 v1_1 v1_2 k (fun v3 v4 v5 v7 v8 v9 v34 v35 v62 v63 v1_0 v1_1 v1_2 => K (.exit 5) (f47s10 v3 v4 v5 v7 v8 v9 v34 v35 v62 v63 v1_0 v1_1 v1_2))) (by kernel_rfl) (f47t51 N (K := seqK (fun σ => f47i N (f47c 16320657815) .n σ (joinK (some f47l10) K)) (joinK (some f47l10) K)) ..) (fx16 fun v3 v4 v5 v7 v8 v9 v10 v11 v12 v34 v35 v62 v63 v1_0 v1_1 v1_2 => f47t52 N v3 v4 v5 v7 v8 v9 v10 v11 v12 v34 v35 v62 v63 v1_0 v1_1 v1_2 K) (by kernel_rfl)
noncomputable def f47p48 : Plan := .mk (some f47l13) none .n f47p50
theorem f47t48 N v3 v4 v5 v7 v8 v9 v10 v34 v35 v62 v63 v1_0 v1_1 v1_2 (K : KT ρ) : f47i N (f47c 3435755927) f47p48 (f47s12 v3 v4 v5 v7 v8 v9 v10 v34 v35 v62 v63 v1_0 v1_1 v1_2) (joinK (some f47l10) K) =
  impl_factors.Z48 N v3 v4 v5 v7 v8 v9 v10 v34 v35 v62 v63 v1_0 v1_1 v1_2 (fun v3 v4 v5 v7 v8 v9 v34 v35 v62 v63 v1_0 v1_1 v1_2 => K .nrm (f47s10 v3 v4 v5 v7 v8 v9 v34 v35 v62 v63 v1_0 v1_1 v1_2)) (fun v3 v4 v5 v7 v8 v9 v34 v35 v62 v63 v1_0 v1_1 v1_2 => K (.exit 5) (f47s10 v3 v4 v5 v7 v8 v9 v34 v35 v62 v63 v1_0 v1_1 v1_2)) (fun v2 => K .ret (f47s21 v2)) :=
 viaSeqS (fun k => impl_factors.Z49 N v3 v4 v5 v7 v8 v9 v10 v34 v35 v62 v63 v1_0 v1_1 v1_2 k) (by kernel_rfl) (f47t49 N (K := seqK (fun σ => f47i N (f47c 7730723223) f47p50 σ (joinK (some f47l10) K)) (joinK (some f47l10) K)) ..) (fx16 fun v3 v4 v5 v7 v8 v9 v10 v11 v12 v34 v35 v62 v63 v1_0 v1_1 v1_2 => f47t50 N v3 v4 v5 v7 v8 v9 v10 v11 v12 v34 v35 v62 v63 v1_0 v1_1 v1_2 K) (by kernel_rfl)
noncomputable def f47p46 : Plan := .mk (some f47l12) none .n f47p48
theorem f47t46 N v3 v4 v5 v7 v8 v9 v34 v35 v62 v63 v1_0 v1_1 v1_2 (K : KT ρ) : f47i N (f47c 1288272279) f47p46 (f47s10 v3 v4 v5 v7 v8 v9 v34 v35 v62 v63 v1_0 v1_1 v1_2) (joinK (some f47l10) K) =
  impl_factors.Z46 N v3 v4 v5 v7 v8 v9 v34 v35 v62 v63 v1_0 v1_1 v1_2 (fun v3 v4 v5 v7 v8 v9 v34 v35 v62 v63 v1_0 v1_1 v1_2 => K .nrm (f47s10 v3 v4 v5 v7 v8 v9 v34 v35 v62 v63 v1_0 v1_1 v1_2)) (fun v3 v4 v5 v7 v8 v9 v34 v35 v62 v63 v1_0 v1_1 v1_2 => K (.exit 5) (f47s10 v3 v4 v5 v7 v8 v9 v34 v35 v62 v63 v1_0 v1_1 v1_2)) (fun v2 => K .ret (f47s21 v2)) :=
 viaSeqS (fun k => impl_factors.Z47 N v3 v4 v5 v7 v8 v9 v34 v35 v62 v63 v1_0 v1_1 v1_2 k) (by kernel_rfl) (f47t47 N (K := seqK (fun σ => f47i N (f47c 3435755927) f47p48 σ (joinK (some f47l10) K)) (joinK (some f47l10) K)) ..) (fx14 fun v3 v4 v5 v7 v8 v9 v10 v34 v35 v62 v63 v1_0 v1_1 v1_2 => f47t48 N v3 v4 v5 v7 v8 v9 v10 v34 v35 v62 v63 v1_0 v1_1 v1_2 K) (by kernel_rfl)
noncomputable def f47p45 : Plan := .mk (some f47l10) none f47p46 .n
theorem f47t45 N v3 v4 v5 v7 v8 v9 v34 v35 v62 v63 v1_0 v1_1 v1_2 (K : KT ρ) : f47i N (f47c 751401367) f47p45 (f47s10 v3 v4 v5 v7 v8 v9 v34 v35 v62 v63 v1_0 v1_1 v1_2) (joinK (some f47l10) K) =
  impl_factors.Z45 N v3 v4 v5 v7 v8 v9 v34 v35 v62 v63 v1_0 v1_1 v1_2 (fun v3 v4 v5 v7 v8 v9 v34 v35 v62 v63 v1_0 v1_1 v1_2 => K .nrm (f47s10 v3 v4 v5 v7 v8 v9 v34 v35 v62 v63 v1_0 v1_1 v1_2)) (fun v2 => K .ret (f47s21 v2)) :=
 viaBlockS (by kernel_rfl) (f47t46 N (K := blockK 5 (joinK (some f47l10) K)) ..) (by kernel_rfl)
theorem f47t53 N v3 v4 v5 v7 v8 v9 v34 v35 v62 v63 v1_0 v1_1 v1_2 (K : KT ρ) : f47i N (f47c 1019836823) .n (f47s10 v3 v4 v5 v7 v8 v9 v34 v35 v62 v63 v1_0 v1_1 v1_2) (joinK (some f47l10) K) =
  impl_factors.Z53 N v3 v4 v5 v7 v8 v9 v34 v35 v62 v63 v1_0 v1_1 v1_2 (fun v3 v4 v5 v7 v8 v9 v34 v35 v62 v63 v1_0 v1_1 v1_2 => K .nrm (f47s10 v3 v4 v5 v7 v8 v9 v34 v35 v62 v63 v1_0 v1_1 v1_2)) := by kernel_rfl
noncomputable def f47p44 : Plan := .mk (some f47l10) none f47p45 .n
theorem f47t44 N v3 v4 v5 v7 v8 v9 v34 v35 v62 v63 v1_0 v1_1 v1_2 (K : KT ρ) : f47i N (f47c 482965911) f47p44 (f47s10 v3 v4 v5 v7 v8 v9 v34 v35 v62 v63 v1_0 v1_1 v1_2) (joinK (some f47l10) K) =
  impl_factors.Z44 N v3 v4 v5 v7 v8 v9 v34 v35 v62 v63 v1_0 v1_1 v1_2 (fun v3 v4 v5 v7 v8 v9 v34 v35 v62 v63 v1_0 v1_1 v1_2 => K .nrm (f47s10 v3 v4 v5 v7 v8 v9 v34 v35 v62 v63 v1_0 v1_1 v1_2)) (fun v2 => K .ret (f47s21 v2)) :=
 viaSeqS (fun k => impl_factors.Z45 N v3 v4 v5 v7 v8 v9 v34 v35 v62 v63 v1_0 v1_1 v1_2 k (fun v2 => K .ret (f47s21 v2))) (by kernel_rfl) (f47t45 N (K := seqK (fun σ => f47i N (f47c 1019836823) .n σ (joinK (some f47l10) K)) (joinK (some f47l10) K)) ..) (fx13 fun v3 v4 v5 v7 v8 v9 v34 v35 v62 v63 v1_0 v1_1 v1_2 => f47t53 N v3 v4 v5 v7 v8 v9 v34 v35 v62 v63 v1_0 v1_1 v1_2 K) (by kernel_rfl)
noncomputable def f47p42 : Plan := .mk (some f47l10) none .n f47p44
theorem f47t42 N v3 v4 v5 v7 v8 v9 v34 v35 v62 v63 v64 v1_0 v1_1 v1_2 (K : KT ρ) : f47i N (f47c 214530455) f47p42 (f47s11 v3 v4 v5 v7 v8 v9 v34 v35 v62 v63 v64 v1_0 v1_1 v1_2) (joinK (some f47l10) K) =
  impl_factors.Z42 N v3 v4 v5 v7 v8 v9 v34 v35 v62 v63 v64 v1_0 v1_1 v1_2 (fun v3 v4 v5 v7 v8 v9 v34 v35 v62 v63 v1_0 v1_1 v1_2 => K .nrm (f47s10 v3 v4 v5 v7 v8 v9 v34 v35 v62 v63 v1_0 v1_1 v1_2)) (fun v3 v4 v5 v7 v8 v34 v35 v1_0 v1_1 v1_2 => K (.exit 4) (f47s8 v3 v4 v5 v7 v8 v34 v35 v1_0 v1_1 v1_2)) (fun v2 => K .ret (f47s21 v2)) :=
 viaSeqS (fun k => impl_factors.Z43 N v3 v4 v5 v7 v8 v9 v34 v35 v62 v63 v64 v1_0 v1_1 v1_2 k (fun v3 v4 v5 v7 v8 v34 v35 v1_0 v1_1 v1_2 => K (.exit 4) (f47s8 v3 v4 v5 v7 v8 v34 v35 v1_0 v1_1 v1_2))) (by kernel_rfl) (f47t43 N (K := seqK (fun σ => f47i N (f47c 482965911) f47p44 σ (joinK (some f47l10) K)) (joinK (some f47l10) K)) ..) (fx13 fun v3 v4 v5 v7 v8 v9 v34 v35 v62 v63 v1_0 v1_1 v1_2 => f47t44 N v3 v4 v5 v7 v8 v9 v34 v35 v62 v63 v1_0 v1_1 v1_2 K) (by kernel_rfl)
noncomputable def f47p40 : Plan := .mk (some f47l11) none .n f47p42
theorem f47t40 N v3 v4 v5 v7 v8 v9 v34 v35 v62 v63 v1_0 v1_1 v1_2 (K : KT ρ) : f47i N (f47c 80312727) f47p40 (f47s10 v3 v4 v5 v7 v8 v9 v34 v35 v62 v63 v1_0 v1_1 v1_2) (joinK (some f47l10) K) =
  impl_factors.Z40 N v3 v4 v5 v7 v8 v9 v34 v35 v62 v63 v1_0 v1_1 v1_2 (fun v3 v4 v5 v7 v8 v9 v34 v35 v62 v63 v1_0 v1_1 v1_2 => K .nrm (f47s10 v3 v4 v5 v7 v8 v9 v34 v35 v62 v63 v1_0 v1_1 v1_2)) (fun v3 v4 v5 v7 v8 v34 v35 v1_0 v1_1 v1_2 => K (.exit 4) (f47s8 v3 v4 v5 v7 v8 v34 v35 v1_0 v1_1 v1_2)) (fun v2 => K .ret (f47s21 v2)) :=
 viaSeqS (fun k => impl_factors.Z41 N v3 v4 v5 v7 v8 v9 v34 v35 v62 v63 v1_0 v1_1 v1_2 k) (by kernel_rfl) (f47t41 N (K := seqK (fun σ => f47i N (f47c 214530455) f47p42 σ (joinK (some f47l10) K)) (joinK (some f47l10) K)) ..) (fx14 fun v3 v4 v5 v7 v8 v9 v34 v35 v62 v63 v64 v1_0 v1_1 v1_2 => f47t42 N v3 v4 v5 v7 v8 v9 v34 v35 v62 v63 v64 v1_0 v1_1 v1_2 K) (by kernel_rfl)
noncomputable def f47p39 : Plan := .mk none (some f47l10) f47p40 .n
noncomputable abbrev f47w39 {ρ : Type} (N M : Nat) (σ : St) (K : KT ρ) : Option ρ := loopC (fun σ K => f47i N (f47c 80312727) f47p40 σ K) f47l10 M σ K
theorem f47t39L {ρ : Type} (N : Nat) (K : KT ρ) : ∀ (M : Nat) (v3 v4 v5 v7 : LI) (v8 v9 v34 v35 v62 v63 v1_0 v1_1 : Int) (v1_2 : LI), f47w39 N M (f47s10 v3 v4 v5 v7 v8 v9 v34 v35 v62 v63 v1_0 v1_1 v1_2) K =
  impl_factors.Z39L N (fun v3 v4 v5 v7 v8 v34 v35 v1_0 v1_1 v1_2 => K (.exit 4) (f47s8 v3 v4 v5 v7 v8 v34 v35 v1_0 v1_1 v1_2)) (fun v2 => K .ret (f47s21 v2)) M v3 v4 v5 v7 v8 v9 v34 v35 v62 v63 v1_0 v1_1 v1_2
  | 0, _, _, _, _, _, _, _, _, _, _, _, _, _ => rfl
  | M + 1, v3, v4, v5, v7, v8, v9, v34, v35, v62, v63, v1_0, v1_1, v1_2 => viaRoundS (fun k => impl_factors.Z40 N v3 v4 v5 v7 v8 v9 v34 v35 v62 v63 v1_0 v1_1 v1_2 k (fun v3 v4 v5 v7 v8 v34 v35 v1_0 v1_1 v1_2 => K (.exit 4) (f47s8 v3 v4 v5 v7 v8 v34 v35 v1_0 v1_1 v1_2)) (fun v2 => K .ret (f47s21 v2))) (f47t40 N (K := seqK (fun σ => f47w39 N M σ K) K) ..) (fx13 fun v3 v4 v5 v7 v8 v9 v34 v35 v62 v63 v1_0 v1_1 v1_2 => f47t39L N K M v3 v4 v5 v7 v8 v9 v34 v35 v62 v63 v1_0 v1_1 v1_2) (by kernel_rfl)
theorem f47t39 N v3 v4 v5 v7 v8 v9 v34 v35 v62 v63 v1_0 v1_1 v1_2 (K : KT ρ) : f47i N (f47c 46758295) f47p39 (f47s10 v3 v4 v5 v7 v8 v9 v34 v35 v62 v63 v1_0 v1_1 v1_2) (joinK (some f47l8) K) =
  impl_factors.Z39 N v3 v4 v5 v7 v8 v9 v34 v35 v62 v63 v1_0 v1_1 v1_2 (fun v3 v4 v5 v7 v8 v34 v35 v1_0 v1_1 v1_2 => K (.exit 4) (f47s8 v3 v4 v5 v7 v8 v34 v35 v1_0 v1_1 v1_2)) (fun v2 => K .ret (f47s21 v2)) :=
 viaLoopS (by kernel_rfl) (f47t39L N (joinK (some f47l8) K) N v3 v4 v5 v7 v8 v9 v34 v35 v62 v63 v1_0 v1_1 v1_2) (by kernel_rfl)
noncomputable def f47p38 : Plan := .mk (some f47l8) none f47p39 .n
theorem f47t38 N v3 v4 v5 v7 v8 v9 v34 v35 v62 v63 v1_0 v1_1 v1_2 (K : KT ρ) : f47i N (f47c 29981079) f47p38 (f47s10 v3 v4 v5 v7 v8 v9 v34 v35 v62 v63 v1_0 v1_1 v1_2) (joinK (some f47l8) K) =
  impl_factors.Z38 N v3 v4 v5 v7 v8 v9 v34 v35 v62 v63 v1_0 v1_1 v1_2 (fun v3 v4 v5 v7 v8 v34 v35 v1_0 v1_1 v1_2 => K .nrm (f47s8 v3 v4 v5 v7 v8 v34 v35 v1_0 v1_1 v1_2)) (fun v2 => K .ret (f47s21 v2)) :=
 viaBlockS (by kernel_rfl) (f47t39 N (K := blockK 4 (joinK (some f47l8) K)) ..) (by kernel_rfl)
noncomputable def f47p36 : Plan := .mk (some f47l10) none .n f47p38
theorem f47t36 N v3 v4 v5 v7 v8 v9 v34 v35 v1_0 v1_1 v1_2 (K : KT ρ) : f47i N (f47c 13203863) f47p36 (f47s9 v3 v4 v5 v7 v8 v9 v34 v35 v1_0 v1_1 v1_2) (joinK (some f47l8) K) =
  impl_factors.Z36 N v3 v4 v5 v7 v8 v9 v34 v35 v1_0 v1_1 v1_2 (fun v3 v4 v5 v7 v8 v34 v35 v1_0 v1_1 v1_2 => K .nrm (f47s8 v3 v4 v5 v7 v8 v34 v35 v1_0 v1_1 v1_2)) (fun v2 => K .ret (f47s21 v2)) :=
 viaSeqS (fun k => impl_factors.Z37 N v3 v4 v5 v7 v8 v9 v34 v35 v1_0 v1_1 v1_2 k) (by kernel_rfl) (f47t37 N (K := seqK (fun σ => f47i N (f47c 29981079) f47p38 σ (joinK (some f47l8) K)) (joinK (some f47l8) K)) ..) (fx13 fun v3 v4 v5 v7 v8 v9 v34 v35 v62 v63 v1_0 v1_1 v1_2 => f47t38 N v3 v4 v5 v7 v8 v9 v34 v35 v62 v63 v1_0 v1_1 v1_2 K) (by kernel_rfl)
noncomputable def f47p34 : Plan := .mk (some f47l9) none .n f47p36
theorem f47t34 N v3 v4 v5 v7 v8 v34 v35 v1_0 v1_1 v1_2 (K : KT ρ) : f47i N (f47c 4815255) f47p34 (f47s8 v3 v4 v5 v7 v8 v34 v35 v1_0 v1_1 v1_2) (joinK (some f47l8) K) =
  impl_factors.Z34 N v3 v4 v5 v7 v8 v34 v35 v1_0 v1_1 v1_2 (fun v3 v4 v5 v7 v8 v34 v35 v1_0 v1_1 v1_2 => K .nrm (f47s8 v3 v4 v5 v7 v8 v34 v35 v1_0 v1_1 v1_2)) (fun v2 => K .ret (f47s21 v2)) :=
 viaSeqS (fun k => impl_factors.Z35 N v3 v4 v5 v7 v8 v34 v35 v1_0 v1_1 v1_2 k) (by kernel_rfl) (f47t35 N (K := seqK (fun σ => f47i N (f47c 13203863) f47p36 σ (joinK (some f47l8) K)) (joinK (some f47l8) K)) ..) (fx11 fun v3 v4 v5 v7 v8 v9 v34 v35 v1_0 v1_1 v1_2 => f47t36 N v3 v4 v5 v7 v8 v9 v34 v35 v1_0 v1_1 v1_2 K) (by kernel_rfl)
noncomputable def f47p33 : Plan := .mk (some f47l8) none f47p34 .n
theorem f47t33 N v3 v4 v5 v7 v8 v34 v35 v1_0 v1_1 v1_2 (K : KT ρ) : f47i N (f47c 2718103) f47p33 (f47s8 v3 v4 v5 v7 v8 v34 v35 v1_0 v1_1 v1_2) (joinK (some f47l8) K) =
  impl_factors.Z33 N v3 v4 v5 v7 v8 v34 v35 v1_0 v1_1 v1_2 (fun v3 v4 v5 v7 v8 v34 v35 v1_0 v1_1 v1_2 => K .nrm (f47s8 v3 v4 v5 v7 v8 v34 v35 v1_0 v1_1 v1_2)) (fun v2 => K .ret (f47s21 v2)) :=
 viaBlockS (by kernel_rfl) (f47t34 N (K := blockK 3 (joinK (some f47l8) K)) ..) (by kernel_rfl)
theorem f47t54 N v3 v4 v5 v7 v8 v34 v35 v1_0 v1_1 v1_2 (K : KT ρ) : f47i N (f47c 3766679) .n (f47s8 v3 v4 v5 v7 v8 v34 v35 v1_0 v1_1 v1_2) (joinK (some f47l8) K) =
  impl_factors.Z54 N v3 v4 v5 v7 v8 v34 v35 v1_0 v1_1 v1_2 (fun v3 v4 v5 v7 v8 v34 v35 v1_0 v1_1 v1_2 => K .nrm (f47s8 v3 v4 v5 v7 v8 v34 v35 v1_0 v1_1 v1_2)) := by kernel_rfl
noncomputable def f47p32 : Plan := .mk (some f47l8) none f47p33 .n
theorem f47t32 N v3 v4 v5 v7 v8 v34 v35 v1_0 v1_1 v1_2 (K : KT ρ) : f47i N (f47c 1669527) f47p32 (f47s8 v3 v4 v5 v7 v8 v34 v35 v1_0 v1_1 v1_2) (joinK (some f47l8) K) =
  impl_factors.Z32 N v3 v4 v5 v7 v8 v34 v35 v1_0 v1_1 v1_2 (fun v3 v4 v5 v7 v8 v34 v35 v1_0 v1_1 v1_2 => K .nrm (f47s8 v3 v4 v5 v7 v8 v34 v35 v1_0 v1_1 v1_2)) (fun v2 => K .ret (f47s21 v2)) :=
 viaSeqS (fun k => impl_factors.Z33 N v3 v4 v5 v7 v8 v34 v35 v1_0 v1_1 v1_2 k (fun v2 => K .ret (f47s21 v2))) (by kernel_rfl) (f47t33 N (K := seqK (fun σ => f47i N (f47c 3766679) .n σ (joinK (some f47l8) K)) (joinK (some f47l8) K)) ..) (fx10 fun v3 v4 v5 v7 v8 v34 v35 v1_0 v1_1 v1_2 => f47t54 N v3 v4 v5 v7 v8 v34 v35 v1_0 v1_1 v1_2 K) (by kernel_rfl)
noncomputable def f47p30 : Plan := .mk (some f47l8) none .n f47p32
theorem f47t30 N v3 v4 v5 v7 v8 v34 v35 v1_0 v1_1 v1_2 (K : KT ρ) : f47i N (f47c 620951) f47p30 (f47s8 v3 v4 v5 v7 v8 v34 v35 v1_0 v1_1 v1_2) (joinK (some f47l8) K) =
  impl_factors.Z30 N v3 v4 v5 v7 v8 v34 v35 v1_0 v1_1 v1_2 (fun v3 v4 v5 v7 v8 v34 v35 v1_0 v1_1 v1_2 => K .nrm (f47s8 v3 v4 v5 v7 v8 v34 v35 v1_0 v1_1 v1_2)) (fun v3 v4 v5 v7 v34 v35 v1_0 v1_1 v1_2 => K (.exit 2) (f47s7 v3 v4 v5 v7 v34 v35 v1_0 v1_1 v1_2)) (fun v2 => K .ret (f47s21 v2)) :=
 viaSeqS (fun k => impl_factors.Z31 N v3 v4 v5 v7 v8 v34 v35 v1_0 v1_1 v1_2 k (fun v3 v4 v5 v7 v34 v35 v1_0 v1_1 v1_2 => K (.exit 2) (f47s7 v3 v4 v5 v7 v34 v35 v1_0 v1_1 v1_2))) (by kernel_rfl) (f47t31 N (K := seqK (fun σ => f47i N (f47c 1669527) f47p32 σ (joinK (some f47l8) K)) (joinK (some f47l8) K)) ..) (fx10 fun v3 v4 v5 v7 v8 v34 v35 v1_0 v1_1 v1_2 => f47t32 N v3 v4 v5 v7 v8 v34 v35 v1_0 v1_1 v1_2 K) (by kernel_rfl)
noncomputable def f47p29 : Plan := .mk none (some f47l8) f47p30 .n
noncomputable abbrev f47w29 {ρ : Type} (N M : Nat) (σ : St) (K : KT ρ) : Option ρ := loopC (fun σ K => f47i N (f47c 620951) f47p30 σ K) f47l8 M σ K
theorem f47t29L {ρ : Type} (N : Nat) (K : KT ρ) : ∀ (M : Nat) (v3 v4 v5 v7 : LI) (v8 v34 v35 v1_0 v1_1 : Int) (v1_2 : LI), f47w29 N M (f47s8 v3 v4 v5 v7 v8 v34 v35 v1_0 v1_1 v1_2) K =
  impl_factors.Z29L N (fun v3 v4 v5 v7 v34 v35 v1_0 v1_1 v1_2 => K (.exit 2) (f47s7 v3 v4 v5 v7 v34 v35 v1_0 v1_1 v1_2)) (fun v2 => K .ret (f47s21 v2)) M v3 v4 v5 v7 v8 v34 v35 v1_0 v1_1 v1_2
  | 0, _, _, _, _, _, _, _, _, _, _ => rfl
  | M + 1, v3, v4, v5, v7, v8, v34, v35, v1_0, v1_1, v1_2 => viaRoundS (fun k => impl_factors.Z30 N v3 v4 v5 v7 v8 v34 v35 v1_0 v1_1 v1_2 k (fun v3 v4 v5 v7 v34 v35 v1_0 v1_1 v1_2 => K (.exit 2) (f47s7 v3 v4 v5 v7 v34 v35 v1_0 v1_1 v1_2)) (fun v2 => K .ret (f47s21 v2))) (f47t30 N (K := seqK (fun σ => f47w29 N M σ K) K) ..) (fx10 fun v3 v4 v5 v7 v8 v34 v35 v1_0 v1_1 v1_2 => f47t29L N K M v3 v4 v5 v7 v8 v34 v35 v1_0 v1_1 v1_2) (by kernel_rfl)
theorem f47t29 N v3 v4 v5 v7 v8 v34 v35 v1_0 v1_1 v1_2 (K : KT ρ) : f47i N (f47c 358807) f47p29 (f47s8 v3 v4 v5 v7 v8 v34 v35 v1_0 v1_1 v1_2) (joinK (some f47l7) K) =
  impl_factors.Z29 N v3 v4 v5 v7 v8 v34 v35 v1_0 v1_1 v1_2 (fun v3 v4 v5 v7 v34 v35 v1_0 v1_1 v1_2 => K (.exit 2) (f47s7 v3 v4 v5 v7 v34 v35 v1_0 v1_1 v1_2)) (fun v2 => K .ret (f47s21 v2)) :=
 viaLoopS (by kernel_rfl) (f47t29L N (joinK (some f47l7) K) N v3 v4 v5 v7 v8 v34 v35 v1_0 v1_1 v1_2) (by kernel_rfl)
noncomputable def f47p28 : Plan := .mk (some f47l7) none f47p29 .n
theorem f47t28 N v3 v4 v5 v7 v8 v34 v35 v1_0 v1_1 v1_2 (K : KT ρ) : f47i N (f47c 227735) f47p28 (f47s8 v3 v4 v5 v7 v8 v34 v35 v1_0 v1_1 v1_2) (joinK (some f47l7) K) =
  impl_factors.Z28 N v3 v4 v5 v7 v8 v34 v35 v1_0 v1_1 v1_2 (fun v3 v4 v5 v7 v34 v35 v1_0 v1_1 v1_2 => K .nrm (f47s7 v3 v4 v5 v7 v34 v35 v1_0 v1_1 v1_2)) (fun v2 => K .ret (f47s21 v2)) :=
 viaBlockS (by kernel_rfl) (f47t29 N (K := blockK 2 (joinK (some f47l7) K)) ..) (by kernel_rfl)
noncomputable def f47p26 : Plan := .mk (some f47l8) none .n f47p28
theorem f47t26 N v3 v4 v5 v7 v34 v35 v1_0 v1_1 v1_2 (K : KT ρ) : f47i N (f47c 96663) f47p26 (f47s7 v3 v4 v5 v7 v34 v35 v1_0 v1_1 v1_2) (joinK (some f47l7) K) =
  impl_factors.Z26 N v3 v4 v5 v7 v34 v35 v1_0 v1_1 v1_2 (fun v3 v4 v5 v7 v34 v35 v1_0 v1_1 v1_2 => K .nrm (f47s7 v3 v4 v5 v7 v34 v35 v1_0 v1_1 v1_2)) (fun v2 => K .ret (f47s21 v2)) :=
 viaSeqS (fun k => impl_factors.Z27 N v3 v4 v5 v7 v34 v35 v1_0 v1_1 v1_2 k) (by kernel_rfl) (f47t27 N (K := seqK (fun σ => f47i N (f47c 227735) f47p28 σ (joinK (some f47l7) K)) (joinK (some f47l7) K)) ..) (fx10 fun v3 v4 v5 v7 v8 v34 v35 v1_0 v1_1 v1_2 => f47t28 N v3 v4 v5 v7 v8 v34 v35 v1_0 v1_1 v1_2 K) (by kernel_rfl)
theorem f47t56 N v3 v4 v5 v7 v34 v35 v1_0 v1_1 v1_2 (K : KT ρ) : f47i N (f47c 194967) .n (f47s7 v3 v4 v5 v7 v34 v35 v1_0 v1_1 v1_2) (joinK (some f47l14) K) =
  impl_factors.Z56 N v3 v4 v5 v7 v34 v35 v1_0 v1_1 v1_2 (fun v3 v4 v5 v7 v16 v34 v35 v1_0 v1_1 v1_2 => K .nrm (f47s14 v3 v4 v5 v7 v16 v34 v35 v1_0 v1_1 v1_2)) := by kernel_rfl
theorem f47t59 N v3 v4 v5 v7 v16 v34 v35 v1_0 v1_1 v1_2 (K : KT ρ) : f47i N (f47c 653719) .n (f47s14 v3 v4 v5 v7 v16 v34 v35 v1_0 v1_1 v1_2) (joinK (some f47l15) K) =
  impl_factors.Z59 N v3 v4 v5 v7 v16 v34 v35 v1_0 v1_1 v1_2 (fun v3 v4 v5 v7 v16 v34 v35 v159 v160 v1_0 v1_1 v1_2 => K .nrm (f47s15 v3 v4 v5 v7 v16 v34 v35 v159 v160 v1_0 v1_1 v1_2)) := by kernel_rfl
theorem f47t62 N v3 v4 v5 v7 v16 v34 v35 v159 v160 v1_0 v1_1 v1_2 (K : KT ρ) : f47i N (f47c 2488727) .n (f47s15 v3 v4 v5 v7 v16 v34 v35 v159 v160 v1_0 v1_1 v1_2) (joinK (some f47l15) K) =
  impl_factors.Z62 N v3 v4 v5 v7 v16 v34 v35 v159 v160 v1_0 v1_1 v1_2 (fun v3 v4 v5 v7 v16 v34 v35 v159 v160 v1_0 v1_1 v1_2 => K .nrm (f47s15 v3 v4 v5 v7 v16 v34 v35 v159 v160 v1_0 v1_1 v1_2)) (fun v3 v4 v5 v7 v16 v34 v35 v1_0 v1_1 v1_2 => K (.exit 6) (f47s14 v3 v4 v5 v7 v16 v34 v35 v1_0 v1_1 v1_2)) := by kernel_rfl
noncomputable def f47p61 : Plan := .mk none (some f47l15) .n .n
noncomputable abbrev f47w61 {ρ : Type} (N M : Nat) (σ : St) (K : KT ρ) : Option ρ := loopC (fun σ K => f47i N (f47c 2488727) .n σ K) f47l15 M σ K
theorem f47t61L {ρ : Type} (N : Nat) (K : KT ρ) : ∀ (M : Nat) (v3 v4 v5 v7 : LI) (v16 v34 v35 v159 v160 v1_0 v1_1 : Int) (v1_2 : LI), f47w61 N M (f47s15 v3 v4 v5 v7 v16 v34 v35 v159 v160 v1_0 v1_1 v1_2) K =
  impl_factors.Z61L N (fun v3 v4 v5 v7 v16 v34 v35 v1_0 v1_1 v1_2 => K (.exit 6) (f47s14 v3 v4 v5 v7 v16 v34 v35 v1_0 v1_1 v1_2)) M v3 v4 v5 v7 v16 v34 v35 v159 v160 v1_0 v1_1 v1_2
  | 0, _, _, _, _, _, _, _, _, _, _, _, _ => rfl
  | M + 1, v3, v4, v5, v7, v16, v34, v35, v159, v160, v1_0, v1_1, v1_2 => viaRoundS (fun k => impl_factors.Z62 N v3 v4 v5 v7 v16 v34 v35 v159 v160 v1_0 v1_1 v1_2 k (fun v3 v4 v5 v7 v16 v34 v35 v1_0 v1_1 v1_2 => K (.exit 6) (f47s14 v3 v4 v5 v7 v16 v34 v35 v1_0 v1_1 v1_2))) (f47t62 N (K := seqK (fun σ => f47w61 N M σ K) K) ..) (fx12 fun v3 v4 v5 v7 v16 v34 v35 v159 v160 v1_0 v1_1 v1_2 => f47t61L N K M v3 v4 v5 v7 v16 v34 v35 v159 v160 v1_0 v1_1 v1_2) (by kernel_rfl)
theorem f47t61 N v3 v4 v5 v7 v16 v34 v35 v159 v160 v1_0 v1_1 v1_2 (K : KT ρ) : f47i N (f47c 1440151) f47p61 (f47s15 v3 v4 v5 v7 v16 v34 v35 v159 v160 v1_0 v1_1 v1_2) (joinK (some f47l14) K) =
  impl_factors.Z61 N v3 v4 v5 v7 v16 v34 v35 v159 v160 v1_0 v1_1 v1_2 (fun v3 v4 v5 v7 v16 v34 v35 v1_0 v1_1 v1_2 => K (.exit 6) (f47s14 v3 v4 v5 v7 v16 v34 v35 v1_0 v1_1 v1_2)) :=
 viaLoopS (by kernel_rfl) (f47t61L N (joinK (some f47l14) K) N v3 v4 v5 v7 v16 v34 v35 v159 v160 v1_0 v1_1 v1_2) (by kernel_rfl)
noncomputable def f47p60 : Plan := .mk (some f47l14) none f47p61 .n
theorem f47t60 N v3 v4 v5 v7 v16 v34 v35 v159 v160 v1_0 v1_1 v1_2 (K : KT ρ) : f47i N (f47c 915863) f47p60 (f47s15 v3 v4 v5 v7 v16 v34 v35 v159 v160 v1_0 v1_1 v1_2) (joinK (some f47l14) K) =
  impl_factors.Z60 N v3 v4 v5 v7 v16 v34 v35 v159 v160 v1_0 v1_1 v1_2 (fun v3 v4 v5 v7 v16 v34 v35 v1_0 v1_1 v1_2 => K .nrm (f47s14 v3 v4 v5 v7 v16 v34 v35 v1_0 v1_1 v1_2)) :=
 viaBlockS (by kernel_rfl) (f47t61 N (K := blockK 6 (joinK (some f47l14) K)) ..) (by kernel_rfl)
noncomputable def f47p58 : Plan := .mk (some f47l15) none .n f47p60
theorem f47t58 N v3 v4 v5 v7 v16 v34 v35 v1_0 v1_1 v1_2 (K : KT ρ) : f47i N (f47c 391575) f47p58 (f47s14 v3 v4 v5 v7 v16 v34 v35 v1_0 v1_1 v1_2) (joinK (some f47l14) K) =
  impl_factors.Z58 N v3 v4 v5 v7 v16 v34 v35 v1_0 v1_1 v1_2 (fun v3 v4 v5 v7 v16 v34 v35 v1_0 v1_1 v1_2 => K .nrm (f47s14 v3 v4 v5 v7 v16 v34 v35 v1_0 v1_1 v1_2)) :=
 viaSeqS (fun k => impl_factors.Z59 N v3 v4 v5 v7 v16 v34 v35 v1_0 v1_1 v1_2 k) (by kernel_rfl) (f47t59 N (K := seqK (fun σ => f47i N (f47c 915863) f47p60 σ (joinK (some f47l14) K)) (joinK (some f47l14) K)) ..) (fx12 fun v3 v4 v5 v7 v16 v34 v35 v159 v160 v1_0 v1_1 v1_2 => f47t60 N v3 v4 v5 v7 v16 v34 v35 v159 v160 v1_0 v1_1 v1_2 K) (by kernel_rfl)
theorem f47t64 N v3 v4 v5 v7 v16 v34 v35 v1_0 v1_1 v1_2 (K : KT ρ) : f47i N (f47c 784791) .n (f47s14 v3 v4 v5 v7 v16 v34 v35 v1_0 v1_1 v1_2) (joinK (some f47l16) K) =
  impl_factors.Z64 N v3 v4 v5 v7 v16 v34 v35 v1_0 v1_1 v1_2 (fun v3 v4 v5 v7 v16 v19 v34 v35 v1_0 v1_1 v1_2 => K .nrm (f47s16 v3 v4 v5 v7 v16 v19 v34 v35 v1_0 v1_1 v1_2)) := by kernel_rfl
theorem f47t67 N v3 v4 v5 v7 v16 v19 v34 v35 v1_0 v1_1 v1_2 (K : KT ρ) : f47i N (f47c 2619799) .n (f47s16 v3 v4 v5 v7 v16 v19 v34 v35 v1_0 v1_1 v1_2) (joinK (some f47l17) K) =
  impl_factors.Z67 N v3 v4 v5 v7 v16 v19 v34 v35 v1_0 v1_1 v1_2 (fun v3 v4 v5 v7 v16 v19 v34 v35 v179 v180 v1_0 v1_1 v1_2 => K .nrm (f47s17 v3 v4 v5 v7 v16 v19 v34 v35 v179 v180 v1_0 v1_1 v1_2)) := by kernel_rfl
theorem f47t70 N v3 v4 v5 v7 v16 v19 v34 v35 v179 v180 v1_0 v1_1 v1_2 (K : KT ρ) : f47i N (f47c 9959831) .n (f47s17 v3 v4 v5 v7 v16 v19 v34 v35 v179 v180 v1_0 v1_1 v1_2) (joinK (some f47l17) K) =
  impl_factors.Z70 N v3 v4 v5 v7 v16 v19 v34 v35 v179 v180 v1_0 v1_1 v1_2 (fun v3 v4 v5 v7 v16 v19 v34 v35 v179 v180 v1_0 v1_1 v1_2 => K .nrm (f47s17 v3 v4 v5 v7 v16 v19 v34 v35 v179 v180 v1_0 v1_1 v1_2)) (fun v3 v4 v5 v7 v19 v34 v35 v1_0 v1_1 v1_2 => K (.exit 8) (f47s18 v3 v4 v5 v7 v19 v34 v35 v1_0 v1_1 v1_2)) := by kernel_rfl
noncomputable def f47p69 : Plan := .mk none (some f47l17) .n .n
noncomputable abbrev f47w69 {ρ : Type} (N M : Nat) (σ : St) (K : KT ρ) : Option ρ := loopC (fun σ K => f47i N (f47c 9959831) .n σ K) f47l17 M σ K
theorem f47t69L {ρ : Type} (N : Nat) (K : KT ρ) : ∀ (M : Nat) (v3 v4 v5 v7 : LI) (v16 v19 v34 v35 v179 v180 v1_0 v1_1 : Int) (v1_2 : LI), f47w69 N M (f47s17 v3 v4 v5 v7 v16 v19 v34 v35 v179 v180 v1_0 v1_1 v1_2) K =
  impl_factors.Z69L N (fun v3 v4 v5 v7 v19 v34 v35 v1_0 v1_1 v1_2 => K (.exit 8) (f47s18 v3 v4 v5 v7 v19 v34 v35 v1_0 v1_1 v1_2)) M v3 v4 v5 v7 v16 v19 v34 v35 v179 v180 v1_0 v1_1 v1_2
  | 0, _, _, _, _, _, _, _, _, _, _, _, _, _ => rfl
  | M + 1, v3, v4, v5, v7, v16, v19, v34, v35, v179, v180, v1_0, v1_1, v1_2 => viaRoundS (fun k => impl_factors.Z70 N v3 v4 v5 v7 v16 v19 v34 v35 v179 v180 v1_0 v1_1 v1_2 k (fun v3 v4 v5 v7 v19 v34 v35 v1_0 v1_1 v1_2 => K (.exit 8) (f47s18 v3 v4 v5 v7 v19 v34 v35 v1_0 v1_1 v1_2))) (f47t70 N (K := seqK (fun σ => f47w69 N M σ K) K) ..) (fx13 fun v3 v4 v5 v7 v16 v19 v34 v35 v179 v180 v1_0 v1_1 v1_2 => f47t69L N K M v3 v4 v5 v7 v16 v19 v34 v35 v179 v180 v1_0 v1_1 v1_2) (by kernel_rfl)
theorem f47t69 N v3 v4 v5 v7 v16 v19 v34 v35 v179 v180 v1_0 v1_1 v1_2 (K : KT ρ) : f47i N (f47c 5765527) f47p69 (f47s17 v3 v4 v5 v7 v16 v19 v34 v35 v179 v180 v1_0 v1_1 v1_2) (joinK (some f47l18) K) =
  impl_factors.Z69 N v3 v4 v5 v7 v16 v19 v34 v35 v179 v180 v1_0 v1_1 v1_2 (fun v3 v4 v5 v7 v19 v34 v35 v1_0 v1_1 v1_2 => K (.exit 8) (f47s18 v3 v4 v5 v7 v19 v34 v35 v1_0 v1_1 v1_2)) :=
 viaLoopS (by kernel_rfl) (f47t69L N (joinK (some f47l18) K) N v3 v4 v5 v7 v16 v19 v34 v35 v179 v180 v1_0 v1_1 v1_2) (by kernel_rfl)
noncomputable def f47p68 : Plan := .mk (some f47l18) none f47p69 .n
theorem f47t68 N v3 v4 v5 v7 v16 v19 v34 v35 v179 v180 v1_0 v1_1 v1_2 (K : KT ρ) : f47i N (f47c 3668375) f47p68 (f47s17 v3 v4 v5 v7 v16 v19 v34 v35 v179 v180 v1_0 v1_1 v1_2) (joinK (some f47l18) K) =
  impl_factors.Z68 N v3 v4 v5 v7 v16 v19 v34 v35 v179 v180 v1_0 v1_1 v1_2 (fun v3 v4 v5 v7 v19 v34 v35 v1_0 v1_1 v1_2 => K .nrm (f47s18 v3 v4 v5 v7 v19 v34 v35 v1_0 v1_1 v1_2)) :=
 viaBlockS (by kernel_rfl) (f47t69 N (K := blockK 8 (joinK (some f47l18) K)) ..) (by kernel_rfl)
noncomputable def f47p66 : Plan := .mk (some f47l17) none .n f47p68
theorem f47t66 N v3 v4 v5 v7 v16 v19 v34 v35 v1_0 v1_1 v1_2 (K : KT ρ) : f47i N (f47c 1571223) f47p66 (f47s16 v3 v4 v5 v7 v16 v19 v34 v35 v1_0 v1_1 v1_2) (joinK (some f47l18) K) =
  impl_factors.Z66 N v3 v4 v5 v7 v16 v19 v34 v35 v1_0 v1_1 v1_2 (fun v3 v4 v5 v7 v19 v34 v35 v1_0 v1_1 v1_2 => K .nrm (f47s18 v3 v4 v5 v7 v19 v34 v35 v1_0 v1_1 v1_2)) :=
 viaSeqS (fun k => impl_factors.Z67 N v3 v4 v5 v7 v16 v19 v34 v35 v1_0 v1_1 v1_2 k) (by kernel_rfl) (f47t67 N (K := seqK (fun σ => f47i N (f47c 3668375) f47p68 σ (joinK (some f47l18) K)) (joinK (some f47l18) K)) ..) (fx13 fun v3 v4 v5 v7 v16 v19 v34 v35 v179 v180 v1_0 v1_1 v1_2 => f47t68 N v3 v4 v5 v7 v16 v19 v34 v35 v179 v180 v1_0 v1_1 v1_2 K) (by kernel_rfl)
theorem f47t72 N v3 v4 v5 v7 v19 v34 v35 v1_0 v1_1 v1_2 (K : KT ρ) : f47i N (f47c 3144087) .n (f47s18 v3 v4 v5 v7 v19 v34 v35 v1_0 v1_1 v1_2) (joinK (some f47l19) K) =
  impl_factors.Z72 N v3 v4 v5 v7 v19 v34 v35 v1_0 v1_1 v1_2 (fun v3 v4 v5 v205 v19 v34 v35 v206 v207 v1_0 v1_1 v1_2 => K .nrm (f47s19 v3 v4 v5 v205 v19 v34 v35 v206 v207 v1_0 v1_1 v1_2)) := by kernel_rfl
theorem f47t75 N v3 v4 v5 v205 v19 v34 v35 v206 v207 v1_0 v1_1 v1_2 (K : KT ρ) : f47i N (f47c 10484119) .n (f47s19 v3 v4 v5 v205 v19 v34 v35 v206 v207 v1_0 v1_1 v1_2) (joinK (some f47l19) K) =
  impl_factors.Z75 N v3 v4 v5 v205 v19 v34 v35 v206 v207 v1_0 v1_1 v1_2 (fun v3 v4 v5 v205 v19 v34 v35 v206 v207 v1_0 v1_1 v1_2 => K .nrm (f47s19 v3 v4 v5 v205 v19 v34 v35 v206 v207 v1_0 v1_1 v1_2)) (fun v3 v4 v5 v34 v35 v1_0 v1_1 v1_2 => K (.exit 10) (f47s4 v3 v4 v5 v34 v35 v1_0 v1_1 v1_2)) := by kernel_rfl
noncomputable def f47p74 : Plan := .mk none (some f47l19) .n .n
noncomputable abbrev f47w74 {ρ : Type} (N M : Nat) (σ : St) (K : KT ρ) : Option ρ := loopC (fun σ K => f47i N (f47c 10484119) .n σ K) f47l19 M σ K
theorem f47t74L {ρ : Type} (N : Nat) (K : KT ρ) : ∀ (M : Nat) (v3 v4 v5 v205 : LI) (v19 v34 v35 v206 v207 v1_0 v1_1 : Int) (v1_2 : LI), f47w74 N M (f47s19 v3 v4 v5 v205 v19 v34 v35 v206 v207 v1_0 v1_1 v1_2) K =
  impl_factors.Z74L N (fun v3 v4 v5 v34 v35 v1_0 v1_1 v1_2 => K (.exit 10) (f47s4 v3 v4 v5 v34 v35 v1_0 v1_1 v1_2)) M v3 v4 v5 v205 v19 v34 v35 v206 v207 v1_0 v1_1 v1_2
  | 0, _, _, _, _, _, _, _, _, _, _, _, _ => rfl
  | M + 1, v3, v4, v5, v205, v19, v34, v35, v206, v207, v1_0, v1_1, v1_2 => viaRoundS (fun k => impl_factors.Z75 N v3 v4 v5 v205 v19 v34 v35 v206 v207 v1_0 v1_1 v1_2 k (fun v3 v4 v5 v34 v35 v1_0 v1_1 v1_2 => K (.exit 10) (f47s4 v3 v4 v5 v34 v35 v1_0 v1_1 v1_2))) (f47t75 N (K := seqK (fun σ => f47w74 N M σ K) K) ..) (fx12 fun v3 v4 v5 v205 v19 v34 v35 v206 v207 v1_0 v1_1 v1_2 => f47t74L N K M v3 v4 v5 v205 v19 v34 v35 v206 v207 v1_0 v1_1 v1_2) (by kernel_rfl)
theorem f47t74 N v3 v4 v5 v205 v19 v34 v35 v206 v207 v1_0 v1_1 v1_2 (K : KT ρ) : f47i N (f47c 6289815) f47p74 (f47s19 v3 v4 v5 v205 v19 v34 v35 v206 v207 v1_0 v1_1 v1_2) (joinK (some f47l4) K) =
  impl_factors.Z74 N v3 v4 v5 v205 v19 v34 v35 v206 v207 v1_0 v1_1 v1_2 (fun v3 v4 v5 v34 v35 v1_0 v1_1 v1_2 => K (.exit 10) (f47s4 v3 v4 v5 v34 v35 v1_0 v1_1 v1_2)) :=
 viaLoopS (by kernel_rfl) (f47t74L N (joinK (some f47l4) K) N v3 v4 v5 v205 v19 v34 v35 v206 v207 v1_0 v1_1 v1_2) (by kernel_rfl)
noncomputable def f47p73 : Plan := .mk (some f47l4) none f47p74 .n
theorem f47t73 N v3 v4 v5 v205 v19 v34 v35 v206 v207 v1_0 v1_1 v1_2 (K : KT ρ) : f47i N (f47c 4192663) f47p73 (f47s19 v3 v4 v5 v205 v19 v34 v35 v206 v207 v1_0 v1_1 v1_2) (joinK (some f47l4) K) =
  impl_factors.Z73 N v3 v4 v5 v205 v19 v34 v35 v206 v207 v1_0 v1_1 v1_2 (fun v3 v4 v5 v34 v35 v1_0 v1_1 v1_2 => K .nrm (f47s4 v3 v4 v5 v34 v35 v1_0 v1_1 v1_2)) :=
 viaBlockS (by kernel_rfl) (f47t74 N (K := blockK 10 (joinK (some f47l4) K)) ..) (by kernel_rfl)
noncomputable def f47p71 : Plan := .mk (some f47l19) none .n f47p73
theorem f47t71 N v3 v4 v5 v7 v19 v34 v35 v1_0 v1_1 v1_2 (K : KT ρ) : f47i N (f47c 2095511) f47p71 (f47s18 v3 v4 v5 v7 v19 v34 v35 v1_0 v1_1 v1_2) (joinK (some f47l4) K) =
  impl_factors.Z71 N v3 v4 v5 v7 v19 v34 v35 v1_0 v1_1 v1_2 (fun v3 v4 v5 v34 v35 v1_0 v1_1 v1_2 => K .nrm (f47s4 v3 v4 v5 v34 v35 v1_0 v1_1 v1_2)) :=
 viaSeqS (fun k => impl_factors.Z72 N v3 v4 v5 v7 v19 v34 v35 v1_0 v1_1 v1_2 k) (by kernel_rfl) (f47t72 N (K := seqK (fun σ => f47i N (f47c 4192663) f47p73 σ (joinK (some f47l4) K)) (joinK (some f47l4) K)) ..) (fx12 fun v3 v4 v5 v205 v19 v34 v35 v206 v207 v1_0 v1_1 v1_2 => f47t73 N v3 v4 v5 v205 v19 v34 v35 v206 v207 v1_0 v1_1 v1_2 K) (by kernel_rfl)
noncomputable def f47p65 : Plan := .mk (some f47l18) none f47p66 f47p71
theorem f47t65 N v3 v4 v5 v7 v16 v19 v34 v35 v1_0 v1_1 v1_2 (K : KT ρ) : f47i N (f47c 1046935) f47p65 (f47s16 v3 v4 v5 v7 v16 v19 v34 v35 v1_0 v1_1 v1_2) (joinK (some f47l4) K) =
  impl_factors.Z65 N v3 v4 v5 v7 v16 v19 v34 v35 v1_0 v1_1 v1_2 (fun v3 v4 v5 v34 v35 v1_0 v1_1 v1_2 => K .nrm (f47s4 v3 v4 v5 v34 v35 v1_0 v1_1 v1_2)) :=
 viaSeqS (fun k => impl_factors.Z66 N v3 v4 v5 v7 v16 v19 v34 v35 v1_0 v1_1 v1_2 k) (by kernel_rfl) (f47t66 N (K := seqK (fun σ => f47i N (f47c 2095511) f47p71 σ (joinK (some f47l4) K)) (joinK (some f47l4) K)) ..) (fx10 fun v3 v4 v5 v7 v19 v34 v35 v1_0 v1_1 v1_2 => f47t71 N v3 v4 v5 v7 v19 v34 v35 v1_0 v1_1 v1_2 K) (by kernel_rfl)
noncomputable def f47p63 : Plan := .mk (some f47l16) none .n f47p65
theorem f47t63 N v3 v4 v5 v7 v16 v34 v35 v1_0 v1_1 v1_2 (K : KT ρ) : f47i N (f47c 522647) f47p63 (f47s14 v3 v4 v5 v7 v16 v34 v35 v1_0 v1_1 v1_2) (joinK (some f47l4) K) =
  impl_factors.Z63 N v3 v4 v5 v7 v16 v34 v35 v1_0 v1_1 v1_2 (fun v3 v4 v5 v34 v35 v1_0 v1_1 v1_2 => K .nrm (f47s4 v3 v4 v5 v34 v35 v1_0 v1_1 v1_2)) :=
 viaSeqS (fun k => impl_factors.Z64 N v3 v4 v5 v7 v16 v34 v35 v1_0 v1_1 v1_2 k) (by kernel_rfl) (f47t64 N (K := seqK (fun σ => f47i N (f47c 1046935) f47p65 σ (joinK (some f47l4) K)) (joinK (some f47l4) K)) ..) (fx11 fun v3 v4 v5 v7 v16 v19 v34 v35 v1_0 v1_1 v1_2 => f47t65 N v3 v4 v5 v7 v16 v19 v34 v35 v1_0 v1_1 v1_2 K) (by kernel_rfl)
noncomputable def f47p57 : Plan := .mk (some f47l14) none f47p58 f47p63
theorem f47t57 N v3 v4 v5 v7 v16 v34 v35 v1_0 v1_1 v1_2 (K : KT ρ) : f47i N (f47c 260503) f47p57 (f47s14 v3 v4 v5 v7 v16 v34 v35 v1_0 v1_1 v1_2) (joinK (some f47l4) K) =
  impl_factors.Z57 N v3 v4 v5 v7 v16 v34 v35 v1_0 v1_1 v1_2 (fun v3 v4 v5 v34 v35 v1_0 v1_1 v1_2 => K .nrm (f47s4 v3 v4 v5 v34 v35 v1_0 v1_1 v1_2)) :=
 viaSeqS (fun k => impl_factors.Z58 N v3 v4 v5 v7 v16 v34 v35 v1_0 v1_1 v1_2 k) (by kernel_rfl) (f47t58 N (K := seqK (fun σ => f47i N (f47c 522647) f47p63 σ (joinK (some f47l4) K)) (joinK (some f47l4) K)) ..) (fx10 fun v3 v4 v5 v7 v16 v34 v35 v1_0 v1_1 v1_2 => f47t63 N v3 v4 v5 v7 v16 v34 v35 v1_0 v1_1 v1_2 K) (by kernel_rfl)
noncomputable def f47p55 : Plan := .mk (some f47l14) none .n f47p57
theorem f47t55 N v3 v4 v5 v7 v34 v35 v1_0 v1_1 v1_2 (K : KT ρ) : f47i N (f47c 129431) f47p55 (f47s7 v3 v4 v5 v7 v34 v35 v1_0 v1_1 v1_2) (joinK (some f47l4) K) =
  impl_factors.Z55 N v3 v4 v5 v7 v34 v35 v1_0 v1_1 v1_2 (fun v3 v4 v5 v34 v35 v1_0 v1_1 v1_2 => K .nrm (f47s4 v3 v4 v5 v34 v35 v1_0 v1_1 v1_2)) :=
 viaSeqS (fun k => impl_factors.Z56 N v3 v4 v5 v7 v34 v35 v1_0 v1_1 v1_2 k) (by kernel_rfl) (f47t56 N (K := seqK (fun σ => f47i N (f47c 260503) f47p57 σ (joinK (some f47l4) K)) (joinK (some f47l4) K)) ..) (fx10 fun v3 v4 v5 v7 v16 v34 v35 v1_0 v1_1 v1_2 => f47t57 N v3 v4 v5 v7 v16 v34 v35 v1_0 v1_1 v1_2 K) (by kernel_rfl)
noncomputable def f47p25 : Plan := .mk (some f47l7) none f47p26 f47p55
theorem f47t25 N v3 v4 v5 v7 v34 v35 v1_0 v1_1 v1_2 (K : KT ρ) : f47i N (f47c 63895) f47p25 (f47s7 v3 v4 v5 v7 v34 v35 v1_0 v1_1 v1_2) (joinK (some f47l4) K) =
  impl_factors.Z25 N v3 v4 v5 v7 v34 v35 v1_0 v1_1 v1_2 (fun v3 v4 v5 v34 v35 v1_0 v1_1 v1_2 => K .nrm (f47s4 v3 v4 v5 v34 v35 v1_0 v1_1 v1_2)) (fun v2 => K .ret (f47s21 v2)) :=
 viaSeqS (fun k => impl_factors.Z26 N v3 v4 v5 v7 v34 v35 v1_0 v1_1 v1_2 k (fun v2 => K .ret (f47s21 v2))) (by kernel_rfl) (f47t26 N (K := seqK (fun σ => f47i N (f47c 129431) f47p55 σ (joinK (some f47l4) K)) (joinK (some f47l4) K)) ..) (fx9 fun v3 v4 v5 v7 v34 v35 v1_0 v1_1 v1_2 => f47t55 N v3 v4 v5 v7 v34 v35 v1_0 v1_1 v1_2 K) (by kernel_rfl)
noncomputable def f47p23 : Plan := .mk (some f47l7) none .n f47p25
theorem f47t23 N v3 v4 v5 v6 v34 v35 v1_0 v1_1 v1_2 (K : KT ρ) : f47i N (f47c 31127) f47p23 (f47s6 v3 v4 v5 v6 v34 v35 v1_0 v1_1 v1_2) (joinK (some f47l4) K) =
  impl_factors.Z23 N v3 v4 v5 v6 v34 v35 v1_0 v1_1 v1_2 (fun v3 v4 v5 v34 v35 v1_0 v1_1 v1_2 => K .nrm (f47s4 v3 v4 v5 v34 v35 v1_0 v1_1 v1_2)) (fun v2 => K .ret (f47s21 v2)) :=
 viaSeqS (fun k => impl_factors.Z24 N v3 v4 v5 v6 v34 v35 v1_0 v1_1 v1_2 k) (by kernel_rfl) (f47t24 N (K := seqK (fun σ => f47i N (f47c 63895) f47p25 σ (joinK (some f47l4) K)) (joinK (some f47l4) K)) ..) (fx9 fun v3 v4 v5 v7 v34 v35 v1_0 v1_1 v1_2 => f47t25 N v3 v4 v5 v7 v34 v35 v1_0 v1_1 v1_2 K) (by kernel_rfl)
noncomputable def f47p21 : Plan := .mk (some f47l6) none .n f47p23
theorem f47t21 N v3 v4 v5 v6 v34 v35 v1_0 v1_1 v1_2 (K : KT ρ) : f47i N (f47c 14743) f47p21 (f47s6 v3 v4 v5 v6 v34 v35 v1_0 v1_1 v1_2) (joinK (some f47l4) K) =
  impl_factors.Z21 N v3 v4 v5 v6 v34 v35 v1_0 v1_1 v1_2 (fun v3 v4 v5 v34 v35 v1_0 v1_1 v1_2 => K .nrm (f47s4 v3 v4 v5 v34 v35 v1_0 v1_1 v1_2)) (fun v2 => K .ret (f47s21 v2)) :=
 viaSeqS (fun k => impl_factors.Z22 N v3 v4 v5 v6 v34 v35 v1_0 v1_1 v1_2 k) (by kernel_rfl) (f47t22 N (K := seqK (fun σ => f47i N (f47c 31127) f47p23 σ (joinK (some f47l4) K)) (joinK (some f47l4) K)) ..) (fx9 fun v3 v4 v5 v6 v34 v35 v1_0 v1_1 v1_2 => f47t23 N v3 v4 v5 v6 v34 v35 v1_0 v1_1 v1_2 K) (by kernel_rfl)
noncomputable def f47p19 : Plan := .mk (some f47l6) none .n f47p21
theorem f47t19 N v3 v4 v5 v6 v34 v35 v1_0 v1_1 v1_2 (K : KT ρ) : f47i N (f47c 6551) f47p19 (f47s6 v3 v4 v5 v6 v34 v35 v1_0 v1_1 v1_2) (joinK (some f47l4) K) =
  impl_factors.Z19 N v3 v4 v5 v6 v34 v35 v1_0 v1_1 v1_2 (fun v3 v4 v5 v34 v35 v1_0 v1_1 v1_2 => K .nrm (f47s4 v3 v4 v5 v34 v35 v1_0 v1_1 v1_2)) (fun v3 v4 v5 v34 v35 v1_0 v1_1 v1_2 => K (.exit 1) (f47s4 v3 v4 v5 v34 v35 v1_0 v1_1 v1_2)) (fun v2 => K .ret (f47s21 v2)) :=
 viaSeqS (fun k => impl_factors.Z20 N v3 v4 v5 v6 v34 v35 v1_0 v1_1 v1_2 k (fun v3 v4 v5 v34 v35 v1_0 v1_1 v1_2 => K (.exit 1) (f47s4 v3 v4 v5 v34 v35 v1_0 v1_1 v1_2))) (by kernel_rfl) (f47t20 N (K := seqK (fun σ => f47i N (f47c 14743) f47p21 σ (joinK (some f47l4) K)) (joinK (some f47l4) K)) ..) (fx9 fun v3 v4 v5 v6 v34 v35 v1_0 v1_1 v1_2 => f47t21 N v3 v4 v5 v6 v34 v35 v1_0 v1_1 v1_2 K) (by kernel_rfl)
noncomputable def f47p17 : Plan := .mk (some f47l6) none .n f47p19
theorem f47t17 N v3 v4 v5 v34 v35 v1_0 v1_1 v1_2 (K : KT ρ) : f47i N (f47c 2455) f47p17 (f47s4 v3 v4 v5 v34 v35 v1_0 v1_1 v1_2) (joinK (some f47l4) K) =
  impl_factors.Z17 N v3 v4 v5 v34 v35 v1_0 v1_1 v1_2 (fun v3 v4 v5 v34 v35 v1_0 v1_1 v1_2 => K .nrm (f47s4 v3 v4 v5 v34 v35 v1_0 v1_1 v1_2)) (fun v3 v4 v5 v34 v35 v1_0 v1_1 v1_2 => K (.exit 1) (f47s4 v3 v4 v5 v34 v35 v1_0 v1_1 v1_2)) (fun v2 => K .ret (f47s21 v2)) :=
 viaSeqS (fun k => impl_factors.Z18 N v3 v4 v5 v34 v35 v1_0 v1_1 v1_2 k) (by kernel_rfl) (f47t18 N (K := seqK (fun σ => f47i N (f47c 6551) f47p19 σ (joinK (some f47l4) K)) (joinK (some f47l4) K)) ..) (fx9 fun v3 v4 v5 v6 v34 v35 v1_0 v1_1 v1_2 => f47t19 N v3 v4 v5 v6 v34 v35 v1_0 v1_1 v1_2 K) (by kernel_rfl)
noncomputable def f47p16 : Plan := .mk (some f47l4) none f47p17 .n
theorem f47t16 N v3 v4 v5 v34 v35 v1_0 v1_1 v1_2 (K : KT ρ) : f47i N (f47c 1431) f47p16 (f47s4 v3 v4 v5 v34 v35 v1_0 v1_1 v1_2) (joinK (some f47l4) K) =
  impl_factors.Z16 N v3 v4 v5 v34 v35 v1_0 v1_1 v1_2 (fun v3 v4 v5 v34 v35 v1_0 v1_1 v1_2 => K .nrm (f47s4 v3 v4 v5 v34 v35 v1_0 v1_1 v1_2)) (fun v2 => K .ret (f47s21 v2)) :=
 viaBlockS (by kernel_rfl) (f47t17 N (K := blockK 1 (joinK (some f47l4) K)) ..) (by kernel_rfl)
theorem f47t76 N v3 v4 v5 v34 v35 v1_0 v1_1 v1_2 (K : KT ρ) : f47i N (f47c 1943) .n (f47s4 v3 v4 v5 v34 v35 v1_0 v1_1 v1_2) (joinK (some f47l4) K) =
  impl_factors.Z76 N v3 v4 v5 v34 v35 v1_0 v1_1 v1_2 (fun v3 v4 v5 v34 v35 v1_0 v1_1 v1_2 => K .nrm (f47s4 v3 v4 v5 v34 v35 v1_0 v1_1 v1_2)) := by kernel_rfl
noncomputable def f47p15 : Plan := .mk (some f47l4) none f47p16 .n
theorem f47t15 N v3 v4 v5 v34 v35 v1_0 v1_1 v1_2 (K : KT ρ) : f47i N (f47c 919) f47p15 (f47s4 v3 v4 v5 v34 v35 v1_0 v1_1 v1_2) (joinK (some f47l4) K) =
  impl_factors.Z15 N v3 v4 v5 v34 v35 v1_0 v1_1 v1_2 (fun v3 v4 v5 v34 v35 v1_0 v1_1 v1_2 => K .nrm (f47s4 v3 v4 v5 v34 v35 v1_0 v1_1 v1_2)) (fun v2 => K .ret (f47s21 v2)) :=
 viaSeqS (fun k => impl_factors.Z16 N v3 v4 v5 v34 v35 v1_0 v1_1 v1_2 k (fun v2 => K .ret (f47s21 v2))) (by kernel_rfl) (f47t16 N (K := seqK (fun σ => f47i N (f47c 1943) .n σ (joinK (some f47l4) K)) (joinK (some f47l4) K)) ..) (fx8 fun v3 v4 v5 v34 v35 v1_0 v1_1 v1_2 => f47t76 N v3 v4 v5 v34 v35 v1_0 v1_1 v1_2 K) (by kernel_rfl)
noncomputable def f47p13 : Plan := .mk (some f47l4) none .n f47p15
theorem f47t13 N v3 v4 v5 v34 v35 v36 v1_0 v1_1 v1_2 (K : KT ρ) : f47i N (f47c 407) f47p13 (f47s5 v3 v4 v5 v34 v35 v36 v1_0 v1_1 v1_2) (joinK (some f47l4) K) =
  impl_factors.Z13 N v3 v4 v5 v34 v35 v36 v1_0 v1_1 v1_2 (fun v3 v4 v5 v34 v35 v1_0 v1_1 v1_2 => K .nrm (f47s4 v3 v4 v5 v34 v35 v1_0 v1_1 v1_2)) (fun v5 => K (.exit 0) (f47s20 v5)) (fun v2 => K .ret (f47s21 v2)) :=
 viaSeqS (fun k => impl_factors.Z14 N v3 v4 v5 v34 v35 v36 v1_0 v1_1 v1_2 k (fun v5 => K (.exit 0) (f47s20 v5))) (by kernel_rfl) (f47t14 N (K := seqK (fun σ => f47i N (f47c 919) f47p15 σ (joinK (some f47l4) K)) (joinK (some f47l4) K)) ..) (fx8 fun v3 v4 v5 v34 v35 v1_0 v1_1 v1_2 => f47t15 N v3 v4 v5 v34 v35 v1_0 v1_1 v1_2 K) (by kernel_rfl)
noncomputable def f47p11 : Plan := .mk (some f47l5) none .n f47p13
theorem f47t11 N v3 v4 v5 v34 v35 v1_0 v1_1 v1_2 (K : KT ρ) : f47i N (f47c 151) f47p11 (f47s4 v3 v4 v5 v34 v35 v1_0 v1_1 v1_2) (joinK (some f47l4) K) =
  impl_factors.Z11 N v3 v4 v5 v34 v35 v1_0 v1_1 v1_2 (fun v3 v4 v5 v34 v35 v1_0 v1_1 v1_2 => K .nrm (f47s4 v3 v4 v5 v34 v35 v1_0 v1_1 v1_2)) (fun v5 => K (.exit 0) (f47s20 v5)) (fun v2 => K .ret (f47s21 v2)) :=
 viaSeqS (fun k => impl_factors.Z12 N v3 v4 v5 v34 v35 v1_0 v1_1 v1_2 k) (by kernel_rfl) (f47t12 N (K := seqK (fun σ => f47i N (f47c 407) f47p13 σ (joinK (some f47l4) K)) (joinK (some f47l4) K)) ..) (fx9 fun v3 v4 v5 v34 v35 v36 v1_0 v1_1 v1_2 => f47t13 N v3 v4 v5 v34 v35 v36 v1_0 v1_1 v1_2 K) (by kernel_rfl)
noncomputable def f47p10 : Plan := .mk none (some f47l4) f47p11 .n
noncomputable abbrev f47w10 {ρ : Type} (N M : Nat) (σ : St) (K : KT ρ) : Option ρ := loopC (fun σ K => f47i N (f47c 151) f47p11 σ K) f47l4 M σ K
theorem f47t10L {ρ : Type} (N : Nat) (K : KT ρ) : ∀ (M : Nat) (v3 v4 v5 : LI) (v34 v35 v1_0 v1_1 : Int) (v1_2 : LI), f47w10 N M (f47s4 v3 v4 v5 v34 v35 v1_0 v1_1 v1_2) K =
  impl_factors.Z10L N (fun v5 => K (.exit 0) (f47s20 v5)) (fun v2 => K .ret (f47s21 v2)) M v3 v4 v5 v34 v35 v1_0 v1_1 v1_2
  | 0, _, _, _, _, _, _, _, _ => rfl
  | M + 1, v3, v4, v5, v34, v35, v1_0, v1_1, v1_2 => viaRoundS (fun k => impl_factors.Z11 N v3 v4 v5 v34 v35 v1_0 v1_1 v1_2 k (fun v5 => K (.exit 0) (f47s20 v5)) (fun v2 => K .ret (f47s21 v2))) (f47t11 N (K := seqK (fun σ => f47w10 N M σ K) K) ..) (fx8 fun v3 v4 v5 v34 v35 v1_0 v1_1 v1_2 => f47t10L N K M v3 v4 v5 v34 v35 v1_0 v1_1 v1_2) (by kernel_rfl)
theorem f47t10 N v3 v4 v5 v34 v35 v1_0 v1_1 v1_2 (K : KT ρ) : f47i N (f47c 87) f47p10 (f47s4 v3 v4 v5 v34 v35 v1_0 v1_1 v1_2) (joinK (some f47l20) K) =
  impl_factors.Z10 N v3 v4 v5 v34 v35 v1_0 v1_1 v1_2 (fun v5 => K (.exit 0) (f47s20 v5)) (fun v2 => K .ret (f47s21 v2)) :=
 viaLoopS (by kernel_rfl) (f47t10L N (joinK (some f47l20) K) N v3 v4 v5 v34 v35 v1_0 v1_1 v1_2) (by kernel_rfl)
noncomputable def f47p9 : Plan := .mk (some f47l20) none f47p10 .n
theorem f47t9 N v3 v4 v5 v34 v35 v1_0 v1_1 v1_2 (K : KT ρ) : f47i N (f47c 55) f47p9 (f47s4 v3 v4 v5 v34 v35 v1_0 v1_1 v1_2) (joinK (some f47l20) K) =
  impl_factors.Z9 N v3 v4 v5 v34 v35 v1_0 v1_1 v1_2 (fun v5 => K .nrm (f47s20 v5)) (fun v2 => K .ret (f47s21 v2)) :=
 viaBlockS (by kernel_rfl) (f47t10 N (K := blockK 0 (joinK (some f47l20) K)) ..) (by kernel_rfl)
noncomputable def f47p7 : Plan := .mk (some f47l4) none .n f47p9
theorem f47t7 N v3 v4 v5 v1_0 v1_1 v1_2 (K : KT ρ) : f47i N (f47c 23) f47p7 (f47s3 v3 v4 v5 v1_0 v1_1 v1_2) (joinK (some f47l20) K) =
  impl_factors.Z7 N v3 v4 v5 v1_0 v1_1 v1_2 (fun v5 => K .nrm (f47s20 v5)) (fun v2 => K .ret (f47s21 v2)) :=
 viaSeqS (fun k => impl_factors.Z8 N v3 v4 v5 v1_0 v1_1 v1_2 k) (by kernel_rfl) (f47t8 N (K := seqK (fun σ => f47i N (f47c 55) f47p9 σ (joinK (some f47l20) K)) (joinK (some f47l20) K)) ..) (fx8 fun v3 v4 v5 v34 v35 v1_0 v1_1 v1_2 => f47t9 N v3 v4 v5 v34 v35 v1_0 v1_1 v1_2 K) (by kernel_rfl)
theorem f47t77 N v5 (K : KT ρ) : f47i N (f47c 31) .n (f47s20 v5) (joinK (some f47lE) K) =
  impl_factors.Z77 N v5 (fun v2 => K .ret (f47s21 v2)) := by kernel_rfl
noncomputable def f47p6 : Plan := .mk (some f47l20) none f47p7 .n
theorem f47t6 N v3 v4 v5 v1_0 v1_1 v1_2 (K : KT ρ) : f47i N (f47c 15) f47p6 (f47s3 v3 v4 v5 v1_0 v1_1 v1_2) (joinK (some f47lE) K) =
  impl_factors.Z6 N v3 v4 v5 v1_0 v1_1 v1_2 (fun v2 => K .ret (f47s21 v2)) :=
 viaSeqS (fun k => impl_factors.Z7 N v3 v4 v5 v1_0 v1_1 v1_2 k (fun v2 => K .ret (f47s21 v2))) (by kernel_rfl) (f47t7 N (K := seqK (fun σ => f47i N (f47c 31) .n σ (joinK (some f47lE) K)) (joinK (some f47lE) K)) ..) (funext fun v5 => f47t77 N v5 K) (by kernel_rfl)
noncomputable def f47p4 : Plan := .mk (some f47l3) none .n f47p6
theorem f47t4 N v3 v4 v1_0 v1_1 v1_2 (K : KT ρ) : f47i N (f47c 7) f47p4 (f47s2 v3 v4 v1_0 v1_1 v1_2) (joinK (some f47lE) K) =
  impl_factors.Z4 N v3 v4 v1_0 v1_1 v1_2 (fun v2 => K .ret (f47s21 v2)) :=
 viaSeqS (fun k => impl_factors.Z5 N v3 v4 v1_0 v1_1 v1_2 k) (by kernel_rfl) (f47t5 N (K := seqK (fun σ => f47i N (f47c 15) f47p6 σ (joinK (some f47lE) K)) (joinK (some f47lE) K)) ..) (fx6 fun v3 v4 v5 v1_0 v1_1 v1_2 => f47t6 N v3 v4 v5 v1_0 v1_1 v1_2 K) (by kernel_rfl)
noncomputable def f47p2 : Plan := .mk (some f47l2) none .n f47p4
theorem f47t2 N v1_0 v1_1 v1_2 (K : KT ρ) : f47i N (f47c 3) f47p2 (f47s1 v1_0 v1_1 v1_2) (joinK (some f47lE) K) =
  impl_factors.Z2 N v1_0 v1_1 v1_2 (fun v2 => K .ret (f47s21 v2)) :=
 viaSeqS (fun k => impl_factors.Z3 N v1_0 v1_1 v1_2 k) (by kernel_rfl) (f47t3 N (K := seqK (fun σ => f47i N (f47c 7) f47p4 σ (joinK (some f47lE) K)) (joinK (some f47lE) K)) ..) (fx5 fun v3 v4 v1_0 v1_1 v1_2 => f47t4 N v3 v4 v1_0 v1_1 v1_2 K) (by kernel_rfl)
noncomputable def f47p0 : Plan := .mk (some f47l1) none .n f47p2
theorem f47t0 N v0 (K : KT ρ) : f47i N (f47c 1) f47p0 (f47s0 v0) (joinK (some f47lE) K) =
  impl_factors.Z0 N v0 (fun v2 => K .ret (f47s21 v2)) :=
 viaSeqS (fun k => impl_factors.Z1 N v0 k) (by kernel_rfl) (f47t1 N (K := seqK (fun σ => f47i N (f47c 3) f47p2 σ (joinK (some f47lE) K)) (joinK (some f47lE) K)) ..) (fx3 fun v1_0 v1_1 v1_2 => f47t2 N v1_0 v1_1 v1_2 K) (by kernel_rfl)
theorem f47m (N : Nat) (v0 : MT) : f47i N (f47c 1) f47p0 (f47s0 v0) (joinK (some f47lE) (finK tab f47sig Tryd.f47.results.toList)) = impl_factors.Z0 N v0 (fun v2 => some ((), (v2, ()))) :=
  (f47t0 N v0 (finK tab f47sig Tryd.f47.results.toList)).trans (by kernel_rfl)
theorem f47ok (h : impl_factors.Spec) : EntryOk Tryd.prog 47 e47 :=
  entry_of_code (sig := f47sig) (c := (f47c 1)) (pl := f47p0) (je := (some f47lE)) (B := f47B) Tryd.func47 (by kernel_rfl) (by kernel_rfl) (by kernel_rfl) tabOk f47GOk (by kernel_rfl) (by kernel_rfl) (by kernel_rfl) (by kernel_rfl) fun X hb hp => by
    obtain ⟨v0, _⟩ := X
    obtain ⟨N, h⟩ := h v0 hb.1 hp
    exact ⟨N, (f47m N v0).trans (h N (Nat.le_refl N))⟩
theorem e47ok : EntryOk Tryd.prog 47 e47 := f47ok impl_factors.ok
end Go.Fw
namespace Go.Fw
variable {ρ : Type}
open Go.Proofs
noncomputable def f28sig : Sig := ⟨[⟨.pair (.int .i64) (.pair (.int .i64) (.sl 3 (.int .i64))), true, false⟩], [⟨.bool, false, false⟩]⟩
noncomputable def e28 : Entry := ⟨f28sig, none, fun X => ((), ((impl_MatrixOk.g X.1), ()))⟩
noncomputable def f28G : Gm := addG (addG emptyG 46 e46) 47 e47
theorem f28GOk : GOk Tryd.prog f28G := ((GOk.nil).add e46ok (by kernel_rfl)).add e47ok (by kernel_rfl)
noncomputable def f28lE : Clean := ⟨[], [], [], [], []⟩
noncomputable def f28s0 (v0 : MT) : St := initSt f28sig.ps (v0, ())
noncomputable def f28s1 (v2 : Bool) : St := stOf [(2, xB v2)] [] []
noncomputable def f28l1 : Clean := ⟨[2], [], [], [], []⟩
noncomputable def f28B : Nat → Option Clean := lookL [(1000000, f28l1)]
noncomputable abbrev f28i {ρ : Type} (N : Nat) (c : Code) (p : Plan) (σ : St) (K : KT ρ) : Option ρ := iCode f28G tab f28B N c p σ K
noncomputable def f28c (n : Nat) : Code := codeN 99 (bodyOf Tryd.f28) n
theorem f28t0 N v0 (K : KT ρ) : f28i N (f28c 1) .n (f28s0 v0) (joinK (some f28lE) K) =
  impl_MatrixOk.Z0 N v0 (fun v2 => K .ret (f28s1 v2)) := by kernel_rfl
theorem f28m (N : Nat) (v0 : MT) : f28i N (f28c 1) .n (f28s0 v0) (joinK (some f28lE) (finK tab f28sig Tryd.f28.results.toList)) = impl_MatrixOk.Z0 N v0 (fun v2 => some ((), (v2, ()))) :=
  (f28t0 N v0 (finK tab f28sig Tryd.f28.results.toList)).trans (by kernel_rfl)
theorem f28ok (h : impl_MatrixOk.Spec) : EntryOk Tryd.prog 28 e28 :=
  entry_of_code (sig := f28sig) (c := (f28c 1)) (pl := .n) (je := (some f28lE)) (B := f28B) Tryd.func28 (by kernel_rfl) (by kernel_rfl) (by kernel_rfl) tabOk f28GOk (by kernel_rfl) (by kernel_rfl) (by kernel_rfl) (by kernel_rfl) fun X hb hp => by
    obtain ⟨v0, _⟩ := X
    obtain ⟨N, h⟩ := h v0 hb.1
    exact ⟨N, (f28m N v0).trans (h N (Nat.le_refl N))⟩
theorem e28ok : EntryOk Tryd.prog 28 e28 := f28ok impl_MatrixOk.ok
end Go.Fw
namespace Go.Fw
variable {ρ : Type}
open Go.Proofs
noncomputable def f39sig : Sig := ⟨[⟨.int .i64, false, false⟩], [⟨.str, false, false⟩]⟩
noncomputable def e39 : Entry := ⟨f39sig, (some fun X => strconv_Itoa.P X.1), fun X => ((), ((strconv_Itoa.g X.1), ()))⟩
noncomputable def f39layren : Go.Shelf.Ren := ⟨fun | 171 => 39 | 243 => 51 | 246 => 63 | 283 => 67 | 284 => 68 | 285 => 69 | 286 => 70 | 129 => 72 | 317 => 71 | 318 => 73 | 319 => 74 | 320 => 75 | 337 => 76 | 338 => 77 | n => n, fun | 3 => 3 | 9 => 9 | 2 => 2 | 4 => 4 | 171 => 91 | 0 => 0 | 53 => 92 | 37 => 61 | 5 => 5 | 173 => 95 | 212 => 98 | 51 => 99 | 20 => 20 | 213 => 100 | 46 => 101 | 232 => 104 | 233 => 105 | n => n, fun | 17 => 1 | 18 => 2 | 19 => 3 | n => n⟩
theorem f39lay : LaysM.n171 Tryd.prog f39layren := { mixed := (by kernel_rfl), f129 := Tryd.func72.trans (congrArg some (by kernel_rfl)), f171 := Tryd.func39.trans (congrArg some (by kernel_rfl)), f243 := Tryd.func51.trans (congrArg some (by kernel_rfl)), f246 := Tryd.func63.trans (congrArg some (by kernel_rfl)), f283 := Tryd.func67.trans (congrArg some (by kernel_rfl)), f284 := Tryd.func68.trans (congrArg some (by kernel_rfl)), f285 := Tryd.func69.trans (congrArg some (by kernel_rfl)), f286 := Tryd.func70.trans (congrArg some (by kernel_rfl)), f317 := Tryd.func71.trans (congrArg some (by kernel_rfl)), f318 := Tryd.func73.trans (congrArg some (by kernel_rfl)), f319 := Tryd.func74.trans (congrArg some (by kernel_rfl)), f320 := Tryd.func75.trans (congrArg some (by kernel_rfl)), f337 := Tryd.func76.trans (congrArg some (by kernel_rfl)), f338 := Tryd.func77.trans (congrArg some (by kernel_rfl)), t0 := Tryd.underlying0, a0 := Tryd.isAgg0, z0 := Tryd.sizeOf0, v0 := Tryd.zeroValue0, t2 := Tryd.underlying2, a2 := Tryd.isAgg2, z2 := Tryd.sizeOf2, v2 := Tryd.zeroValue2, t3 := Tryd.underlying3, a3 := Tryd.isAgg3, z3 := Tryd.sizeOf3, v3 := Tryd.zeroValue3, t4 := Tryd.underlying4, a4 := Tryd.isAgg4, z4 := Tryd.sizeOf4, v4 := Tryd.zeroValue4, t5 := Tryd.underlying5, a5 := Tryd.isAgg5, z5 := Tryd.sizeOf5, v5 := Tryd.zeroValue5, t9 := Tryd.underlying9, a9 := Tryd.isAgg9, z9 := Tryd.sizeOf9, v9 := Tryd.zeroValue9, t20 := Tryd.underlying20, a20 := Tryd.isAgg20, z20 := Tryd.sizeOf20, v20 := Tryd.zeroValue20, t37 := Tryd.underlying61, a37 := Tryd.isAgg61, z37 := Tryd.sizeOf61, v37 := Tryd.zeroValue61, t46 := Tryd.underlying101, a46 := Tryd.isAgg101, z46 := Tryd.sizeOf101, v46 := Tryd.zeroValue101, t51 := Tryd.underlying99, a51 := Tryd.isAgg99, z51 := Tryd.sizeOf99, v51 := Tryd.zeroValue99, t53 := Tryd.underlying92, a53 := Tryd.isAgg92, z53 := Tryd.sizeOf92, v53 := Tryd.zeroValue92, t171 := Tryd.underlying91, a171 := Tryd.isAgg91, z171 := Tryd.sizeOf91, v171 := Tryd.zeroValue91, t173 := Tryd.underlying95, a173 := Tryd.isAgg95, z173 := Tryd.sizeOf95, v173 := Tryd.zeroValue95, t212 := Tryd.underlying98, a212 := Tryd.isAgg98, z212 := Tryd.sizeOf98, v212 := Tryd.zeroValue98, t213 := Tryd.underlying100, a213 := Tryd.isAgg100, z213 := Tryd.sizeOf100, t232 := Tryd.underlying104, a232 := Tryd.isAgg104, z232 := Tryd.sizeOf104, v232 := Tryd.zeroValue104, t233 := Tryd.underlying105, a233 := Tryd.isAgg105, z233 := Tryd.sizeOf105, v233 := Tryd.zeroValue105, g17 := (by kernel_rfl), g18 := (by kernel_rfl), g19 := (by kernel_rfl), i0 := (by kernel_rfl), i2 := (by kernel_rfl), i3 := (by kernel_rfl), i4 := (by kernel_rfl), i5 := (by kernel_rfl), i9 := (by kernel_rfl), i20 := (by kernel_rfl), i37 := (by kernel_rfl), i46 := (by kernel_rfl), i51 := (by kernel_rfl), i53 := (by kernel_rfl), i171 := (by kernel_rfl), i173 := (by kernel_rfl), i212 := (by kernel_rfl), i232 := (by kernel_rfl), i233 := (by kernel_rfl), m17 := (by kernel_rfl), m18 := (by kernel_rfl), m19 := (by kernel_rfl) }
theorem f39ok (_ : True) : EntryOk Tryd.prog 39 e39 := itoa_ok tab0 f39lay
theorem e39ok : EntryOk Tryd.prog 39 e39 := f39ok strconv_Itoa.ok
end Go.Fw
namespace Go.Fw
variable {ρ : Type}
open Go.Proofs
noncomputable def f21sig : Sig := ⟨[⟨.int .i64, false, false⟩], [⟨.str, false, false⟩]⟩
noncomputable def e21 : Entry := ⟨f21sig, (some fun X => impl_FormatInt.P X.1), fun X => ((), ((impl_FormatInt.g X.1), ()))⟩
noncomputable def f21G : Gm := addG emptyG 39 e39
theorem f21GOk : GOk Tryd.prog f21G := (GOk.nil).add e39ok (by kernel_rfl)
noncomputable def f21lE : Clean := ⟨[], [], [], [], []⟩
noncomputable def f21s0 (v0 : Int) : St := initSt f21sig.ps (v0, ())
noncomputable def f21s1 (v2 : ByteArray) : St := stOf [(2, .c (.str v2))] [] []
noncomputable def f21l1 : Clean := ⟨[2], [], [], [], []⟩
noncomputable def f21B : Nat → Option Clean := lookL [(1000000, f21l1)]
noncomputable abbrev f21i {ρ : Type} (N : Nat) (c : Code) (p : Plan) (σ : St) (K : KT ρ) : Option ρ := iCode f21G tab f21B N c p σ K
noncomputable def f21c (n : Nat) : Code := codeN 99 (bodyOf Tryd.f21) n
theorem f21t0 N v0 (K : KT ρ) : f21i N (f21c 1) .n (f21s0 v0) (joinK (some f21lE) K) =
  impl_FormatInt.Z0 N v0 (fun v2 => K .ret (f21s1 v2)) := by kernel_rfl
theorem f21m (N : Nat) (v0 : Int) : f21i N (f21c 1) .n (f21s0 v0) (joinK (some f21lE) (finK tab f21sig Tryd.f21.results.toList)) = impl_FormatInt.Z0 N v0 (fun v2 => some ((), (v2, ()))) :=
  (f21t0 N v0 (finK tab f21sig Tryd.f21.results.toList)).trans (by kernel_rfl)
theorem f21ok (h : impl_FormatInt.Spec) : EntryOk Tryd.prog 21 e21 :=
  entry_of_code (sig := f21sig) (c := (f21c 1)) (pl := .n) (je := (some f21lE)) (B := f21B) Tryd.func21 (by kernel_rfl) (by kernel_rfl) (by kernel_rfl) tabOk f21GOk (by kernel_rfl) (by kernel_rfl) (by kernel_rfl) (by kernel_rfl) fun X hb hp => by
    obtain ⟨v0, _⟩ := X
    obtain ⟨N, h⟩ := h v0 hp
    exact ⟨N, (f21m N v0).trans (h N (Nat.le_refl N))⟩
theorem e21ok : EntryOk Tryd.prog 21 e21 := f21ok impl_FormatInt.ok
end Go.Fw
namespace Go.Fw
variable {ρ : Type}
open Go.Proofs
noncomputable def f23sig : Sig := ⟨[⟨.sl 9 (.str), false, false⟩, ⟨.str, false, false⟩], [⟨.str, false, false⟩]⟩
noncomputable def e23 : Entry := ⟨f23sig, (some fun X => strings_Join.P X.1 X.2.1), fun X => ((), ((strings_Join.g X.1 X.2.1), ()))⟩
noncomputable def f23layren : Go.Shelf.Ren := ⟨fun | 156 => 23 | 165 => 40 | 166 => 41 | 169 => 42 | 240 => 52 | 241 => 53 | 276 => 64 | 277 => 65 | n => n, fun | 31 => 49 | 9 => 9 | 3 => 3 | 4 => 4 | 0 => 0 | 20 => 20 | 72 => 68 | 76 => 72 | 70 => 66 | 37 => 61 | 75 => 71 | 127 => 81 | 164 => 88 | 5 => 5 | 80 => 74 | n => n, fun n => n⟩
theorem f23lay : Lays.n156 Tryd.prog f23layren := { mixed := (by kernel_rfl), f156 := Tryd.func23.trans (congrArg some (by kernel_rfl)), f165 := Tryd.func40.trans (congrArg some (by kernel_rfl)), f166 := Tryd.func41.trans (congrArg some (by kernel_rfl)), f169 := Tryd.func42.trans (congrArg some (by kernel_rfl)), f240 := Tryd.func52.trans (congrArg some (by kernel_rfl)), f241 := Tryd.func53.trans (congrArg some (by kernel_rfl)), f276 := Tryd.func64.trans (congrArg some (by kernel_rfl)), f277 := Tryd.func65.trans (congrArg some (by kernel_rfl)), t0 := Tryd.underlying0, a0 := Tryd.isAgg0, z0 := Tryd.sizeOf0, v0 := Tryd.zeroValue0, t3 := Tryd.underlying3, a3 := Tryd.isAgg3, z3 := Tryd.sizeOf3, v3 := Tryd.zeroValue3, t4 := Tryd.underlying4, a4 := Tryd.isAgg4, z4 := Tryd.sizeOf4, v4 := Tryd.zeroValue4, t9 := Tryd.underlying9, a9 := Tryd.isAgg9, z9 := Tryd.sizeOf9, v9 := Tryd.zeroValue9, t20 := Tryd.underlying20, a20 := Tryd.isAgg20, z20 := Tryd.sizeOf20, v20 := Tryd.zeroValue20, t31 := Tryd.underlying49, a31 := Tryd.isAgg49, z31 := Tryd.sizeOf49, v31 := Tryd.zeroValue49, t37 := Tryd.underlying61, a37 := Tryd.isAgg61, z37 := Tryd.sizeOf61, v37 := Tryd.zeroValue61, t70 := Tryd.underlying66, a70 := Tryd.isAgg66, z70 := Tryd.sizeOf66, v70 := Tryd.zeroValue66, t72 := Tryd.underlying68, a72 := Tryd.isAgg68, z72 := Tryd.sizeOf68, v72 := Tryd.zeroValue68, t75 := Tryd.underlying71, a75 := Tryd.isAgg71, z75 := Tryd.sizeOf71, v75 := Tryd.zeroValue71, t76 := Tryd.underlying72, a76 := Tryd.isAgg72, z76 := Tryd.sizeOf72, v76 := Tryd.zeroValue72, t127 := Tryd.underlying81, a127 := Tryd.isAgg81, z127 := Tryd.sizeOf81, v127 := Tryd.zeroValue81, t164 := Tryd.underlying88, a164 := Tryd.isAgg88, z164 := Tryd.sizeOf88, v164 := Tryd.zeroValue88 }
theorem f23layX : Builder.Extra Tryd.prog f23layren := { sizeBuilder := (by kernel_rfl), liesBuilder := (by kernel_rfl), t5 := Tryd.underlying5, a5 := Tryd.isAgg5, z5 := Tryd.sizeOf5, v5 := Tryd.zeroValue5, infoByte := (by kernel_rfl), cellsByte := (by kernel_rfl), sizeByte := (by kernel_rfl), neB5 := (by decide) }
theorem f23ok (_ : True) : EntryOk Tryd.prog 23 e23 := join_ok f23lay f23layX
theorem e23ok : EntryOk Tryd.prog 23 e23 := f23ok strings_Join.ok
end Go.Fw
namespace Go.Fw
variable {ρ : Type}
open Go.Proofs
noncomputable def f22sig : Sig := ⟨[⟨.sl 3 (.int .i64), false, false⟩], [⟨.str, false, false⟩]⟩
noncomputable def e22 : Entry := ⟨f22sig, (some fun X => impl_FormatInts.P X.1), fun X => ((), ((impl_FormatInts.g X.1), ()))⟩
noncomputable def f22G : Gm := addG (addG emptyG 21 e21) 23 e23
theorem f22GOk : GOk Tryd.prog f22G := ((GOk.nil).add e21ok (by kernel_rfl)).add e23ok (by kernel_rfl)
noncomputable def f22lE : Clean := ⟨[], [], [], [], []⟩
noncomputable def f22s0 (v0 : LI) : St := initSt f22sig.ps (v0, ())
noncomputable def f22s1 (v0 : LI) : St := stOf [(0, .c (.sn 3 tI v0 none))] [] []
noncomputable def f22l1 : Clean := ⟨[0], [], [], [], []⟩
noncomputable def f22s2 (v0 : LI) : St := stOf [(0, .c (.sn 3 tI v0 none)), (3, .c (.nil))] [] []
noncomputable def f22l2 : Clean := ⟨[0, 3], [], [], [], []⟩
noncomputable def f22s3 (v6 : LI) (v7 v8 : Int) : St := stOf [(3, .c (.nil)), (6, .c (.sn 3 tI v6 none)), (7, xi v7), (8, xi v8)] [] []
noncomputable def f22l3 : Clean := ⟨[3, 6, 7, 8], [], [], [], []⟩
noncomputable def f22s4 (v3 : List ByteArray) (v6 : LI) (v7 v8 : Int) : St := stOf [(3, xo 1000192), (6, .c (.sn 3 tI v6 none)), (7, xi v7), (8, xi v8)] [] [(1000192, (⟨9, .str, v3, true, false⟩ : Row))]
noncomputable def f22l4 : Clean := ⟨[3, 6, 7, 8], [], [⟨⟨false, 3, 0⟩, 30000000, 9, .str, true⟩], [], [(⟨false, 3, 0⟩, 1000192)]⟩
noncomputable def f22s5 (v3 : List ByteArray) : St := stOf [(3, xo 1000192)] [] [(1000192, (⟨9, .str, v3, true, false⟩ : Row))]
noncomputable def f22l5 : Clean := ⟨[3], [], [], [], [(⟨false, 3, 0⟩, 1000192)]⟩
noncomputable def f22s6 (v2 : ByteArray) : St := stOf [(2, .c (.str v2))] [] []
noncomputable def f22l6 : Clean := ⟨[2], [], [], [], []⟩
noncomputable def f22B : Nat → Option Clean := lookL [(0, f22l5), (1000000, f22l6)]
noncomputable abbrev f22i {ρ : Type} (N : Nat) (c : Code) (p : Plan) (σ : St) (K : KT ρ) : Option ρ := iCode f22G tab f22B N c p σ K
noncomputable def f22c (n : Nat) : Code := codeN 99 (bodyOf Tryd.f22) n
theorem f22t1 N v0 (K : KT ρ) : f22i N (f22c 2) .n (f22s0 v0) (joinK (some f22l1) K) =
  impl_FormatInts.Z1 N v0 (fun v0 => K .nrm (f22s1 v0)) := by kernel_rfl
theorem f22t3 N v0 (K : KT ρ) : f22i N (f22c 5) .n (f22s1 v0) (joinK (some f22l2) K) =
  impl_FormatInts.Z3 N v0 (fun v0 => K .nrm (f22s2 v0)) := by kernel_rfl
theorem f22t6 N v0 (K : KT ρ) : f22i N (f22c 19) .n (f22s2 v0) (joinK (some f22l3) K) =
  impl_FormatInts.Z6 N v0 (fun v6 v7 v8 => K .nrm (f22s3 v6 v7 v8)) := by kernel_rfl
theorem f22t9 N v3 v6 v7 v8 (K : KT ρ) : f22i N (f22c 75) .n (f22s4 v3 v6 v7 v8) (joinK (some f22l4) K) =
  impl_FormatInts.Z9 N v3 v6 v7 v8 (fun v3 v6 v7 v8 => K .nrm (f22s4 v3 v6 v7 v8)) (fun v3 => K (.exit 0) (f22s5 v3)) := by kernel_rfl
noncomputable def f22p8 : Plan := .mk none (some f22l4) .n .n
noncomputable abbrev f22w8 {ρ : Type} (N M : Nat) (σ : St) (K : KT ρ) : Option ρ := loopC (fun σ K => f22i N (f22c 75) .n σ K) f22l4 M σ K
theorem f22t8L {ρ : Type} (N : Nat) (K : KT ρ) : ∀ (M : Nat) (v3 : List ByteArray) (v6 : LI) (v7 v8 : Int), f22w8 N M (f22s4 v3 v6 v7 v8) K =
  impl_FormatInts.Z8L N (fun v3 => K (.exit 0) (f22s5 v3)) M v3 v6 v7 v8
  | 0, _, _, _, _ => rfl
  | M + 1, v3, v6, v7, v8 => viaRoundS (fun k => impl_FormatInts.Z9 N v3 v6 v7 v8 k (fun v3 => K (.exit 0) (f22s5 v3))) (f22t9 N (K := seqK (fun σ => f22w8 N M σ K) K) ..) (fx4 fun v3 v6 v7 v8 => f22t8L N K M v3 v6 v7 v8) (by kernel_rfl)
theorem f22t8 N v6 v7 v8 (K : KT ρ) : f22i N (f22c 43) f22p8 (f22s3 v6 v7 v8) (joinK (some f22l5) K) =
  impl_FormatInts.Z8 N v6 v7 v8 (fun v3 => K (.exit 0) (f22s5 v3)) :=
 viaLoopS (by kernel_rfl) (f22t8L N (joinK (some f22l5) K) N ([] : List ByteArray) v6 v7 v8) (by kernel_rfl)
noncomputable def f22p7 : Plan := .mk (some f22l5) none f22p8 .n
theorem f22t7 N v6 v7 v8 (K : KT ρ) : f22i N (f22c 27) f22p7 (f22s3 v6 v7 v8) (joinK (some f22l5) K) =
  impl_FormatInts.Z7 N v6 v7 v8 (fun v3 => K .nrm (f22s5 v3)) :=
 viaBlockS (by kernel_rfl) (f22t8 N (K := blockK 0 (joinK (some f22l5) K)) ..) (by kernel_rfl)
noncomputable def f22p5 : Plan := .mk (some f22l3) none .n f22p7
theorem f22t5 N v0 (K : KT ρ) : f22i N (f22c 11) f22p5 (f22s2 v0) (joinK (some f22l5) K) =
  impl_FormatInts.Z5 N v0 (fun v3 => K .nrm (f22s5 v3)) :=
 viaSeqS (fun k => impl_FormatInts.Z6 N v0 k) (by kernel_rfl) (f22t6 N (K := seqK (fun σ => f22i N (f22c 27) f22p7 σ (joinK (some f22l5) K)) (joinK (some f22l5) K)) ..) (fx3 fun v6 v7 v8 => f22t7 N v6 v7 v8 K) (by kernel_rfl)
theorem f22t10 N v3 (K : KT ρ) : f22i N (f22c 15) .n (f22s5 v3) (joinK (some f22lE) K) =
  impl_FormatInts.Z10 N v3 (fun v2 => K .ret (f22s6 v2)) := by kernel_rfl
noncomputable def f22p4 : Plan := .mk (some f22l5) none f22p5 .n
theorem f22t4 N v0 (K : KT ρ) : f22i N (f22c 7) f22p4 (f22s2 v0) (joinK (some f22lE) K) =
  impl_FormatInts.Z4 N v0 (fun v2 => K .ret (f22s6 v2)) :=
 viaSeqS (fun k => impl_FormatInts.Z5 N v0 k) (by kernel_rfl) (f22t5 N (K := seqK (fun σ => f22i N (f22c 15) .n σ (joinK (some f22lE) K)) (joinK (some f22lE) K)) ..) (funext fun v3 => f22t10 N v3 K) (by kernel_rfl)
noncomputable def f22p2 : Plan := .mk (some f22l2) none .n f22p4
theorem f22t2 N v0 (K : KT ρ) : f22i N (f22c 3) f22p2 (f22s1 v0) (joinK (some f22lE) K) =
  impl_FormatInts.Z2 N v0 (fun v2 => K .ret (f22s6 v2)) :=
 viaSeqS (fun k => impl_FormatInts.Z3 N v0 k) (by kernel_rfl) (f22t3 N (K := seqK (fun σ => f22i N (f22c 7) f22p4 σ (joinK (some f22lE) K)) (joinK (some f22lE) K)) ..) (funext fun v0 => f22t4 N v0 K) (by kernel_rfl)
noncomputable def f22p0 : Plan := .mk (some f22l1) none .n f22p2
theorem f22t0 N v0 (K : KT ρ) : f22i N (f22c 1) f22p0 (f22s0 v0) (joinK (some f22lE) K) =
  impl_FormatInts.Z0 N v0 (fun v2 => K .ret (f22s6 v2)) :=
 viaSeqS (fun k => impl_FormatInts.Z1 N v0 k) (by kernel_rfl) (f22t1 N (K := seqK (fun σ => f22i N (f22c 3) f22p2 σ (joinK (some f22lE) K)) (joinK (some f22lE) K)) ..) (funext fun v0 => f22t2 N v0 K) (by kernel_rfl)
theorem f22m (N : Nat) (v0 : LI) : f22i N (f22c 1) f22p0 (f22s0 v0) (joinK (some f22lE) (finK tab f22sig Tryd.f22.results.toList)) = impl_FormatInts.Z0 N v0 (fun v2 => some ((), (v2, ()))) :=
  (f22t0 N v0 (finK tab f22sig Tryd.f22.results.toList)).trans (by kernel_rfl)
theorem f22ok (h : impl_FormatInts.Spec) : EntryOk Tryd.prog 22 e22 :=
  entry_of_code (sig := f22sig) (c := (f22c 1)) (pl := f22p0) (je := (some f22lE)) (B := f22B) Tryd.func22 (by kernel_rfl) (by kernel_rfl) (by kernel_rfl) tabOk f22GOk (by kernel_rfl) (by kernel_rfl) (by kernel_rfl) (by kernel_rfl) fun X hb hp => by
    obtain ⟨v0, _⟩ := X
    obtain ⟨N, h⟩ := h v0 hb.1 hp
    exact ⟨N, (f22m N v0).trans (h N (Nat.le_refl N))⟩
theorem e22ok : EntryOk Tryd.prog 22 e22 := f22ok impl_FormatInts.ok
end Go.Fw
namespace Go.Fw
variable {ρ : Type}
open Go.Proofs
noncomputable def f29sig : Sig := ⟨[⟨.sl 33 (.sl 3 (.int .i64)), false, false⟩], [⟨.str, false, false⟩]⟩
noncomputable def e29 : Entry := ⟨f29sig, (some fun X => impl_rowsText.P X.1), fun X => ((), ((impl_rowsText.g X.1), ()))⟩
noncomputable def f29G : Gm := addG (addG emptyG 22 e22) 23 e23
theorem f29GOk : GOk Tryd.prog f29G := ((GOk.nil).add e22ok (by kernel_rfl)).add e23ok (by kernel_rfl)
noncomputable def f29lE : Clean := ⟨[], [], [], [], []⟩
noncomputable def f29s0 (v0 : LL) : St := initSt f29sig.ps (v0, ())
noncomputable def f29s1 (v0 : LL) : St := stOf [(0, .c (.sn 33 (.sl 3 tI) v0 none))] [] []
noncomputable def f29l1 : Clean := ⟨[0], [], [], [], []⟩
noncomputable def f29s2 (v0 : LL) : St := stOf [(0, .c (.sn 33 (.sl 3 tI) v0 none)), (3, .c (.nil))] [] []
noncomputable def f29l2 : Clean := ⟨[0, 3], [], [], [], []⟩
noncomputable def f29s3 (v6 : LL) (v7 v8 : Int) : St := stOf [(3, .c (.nil)), (6, .c (.sn 33 (.sl 3 tI) v6 none)), (7, xi v7), (8, xi v8)] [] []
noncomputable def f29l3 : Clean := ⟨[3, 6, 7, 8], [], [], [], []⟩
noncomputable def f29s4 (v3 : List ByteArray) (v6 : LL) (v7 v8 : Int) : St := stOf [(3, xo 1000192), (6, .c (.sn 33 (.sl 3 tI) v6 none)), (7, xi v7), (8, xi v8)] [] [(1000192, (⟨9, .str, v3, true, false⟩ : Row))]
noncomputable def f29l4 : Clean := ⟨[3, 6, 7, 8], [], [⟨⟨false, 3, 0⟩, 30000000, 9, .str, true⟩], [], [(⟨false, 3, 0⟩, 1000192)]⟩
noncomputable def f29s5 (v3 : List ByteArray) : St := stOf [(3, xo 1000192)] [] [(1000192, (⟨9, .str, v3, true, false⟩ : Row))]
noncomputable def f29l5 : Clean := ⟨[3], [], [], [], [(⟨false, 3, 0⟩, 1000192)]⟩
noncomputable def f29s6 (v2 : ByteArray) : St := stOf [(2, .c (.str v2))] [] []
noncomputable def f29l6 : Clean := ⟨[2], [], [], [], []⟩
noncomputable def f29B : Nat → Option Clean := lookL [(0, f29l5), (1000000, f29l6)]
noncomputable abbrev f29i {ρ : Type} (N : Nat) (c : Code) (p : Plan) (σ : St) (K : KT ρ) : Option ρ := iCode f29G tab f29B N c p σ K
noncomputable def f29c (n : Nat) : Code := codeN 99 (bodyOf Tryd.f29) n
theorem f29t1 N v0 (K : KT ρ) : f29i N (f29c 2) .n (f29s0 v0) (joinK (some f29l1) K) =
  impl_rowsText.Z1 N v0 (fun v0 => K .nrm (f29s1 v0)) := by kernel_rfl
theorem f29t3 N v0 (K : KT ρ) : f29i N (f29c 5) .n (f29s1 v0) (joinK (some f29l2) K) =
  impl_rowsText.Z3 N v0 (fun v0 => K .nrm (f29s2 v0)) := by kernel_rfl
theorem f29t6 N v0 (K : KT ρ) : f29i N (f29c 19) .n (f29s2 v0) (joinK (some f29l3) K) =
  impl_rowsText.Z6 N v0 (fun v6 v7 v8 => K .nrm (f29s3 v6 v7 v8)) := by kernel_rfl
theorem f29t9 N v3 v6 v7 v8 (K : KT ρ) : f29i N (f29c 75) .n (f29s4 v3 v6 v7 v8) (joinK (some f29l4) K) =
  impl_rowsText.Z9 N v3 v6 v7 v8 (fun v3 v6 v7 v8 => K .nrm (f29s4 v3 v6 v7 v8)) (fun v3 => K (.exit 0) (f29s5 v3)) := by kernel_rfl
noncomputable def f29p8 : Plan := .mk none (some f29l4) .n .n
noncomputable abbrev f29w8 {ρ : Type} (N M : Nat) (σ : St) (K : KT ρ) : Option ρ := loopC (fun σ K => f29i N (f29c 75) .n σ K) f29l4 M σ K
theorem f29t8L {ρ : Type} (N : Nat) (K : KT ρ) : ∀ (M : Nat) (v3 : List ByteArray) (v6 : LL) (v7 v8 : Int), f29w8 N M (f29s4 v3 v6 v7 v8) K =
  impl_rowsText.Z8L N (fun v3 => K (.exit 0) (f29s5 v3)) M v3 v6 v7 v8
  | 0, _, _, _, _ => rfl
  | M + 1, v3, v6, v7, v8 => viaRoundS (fun k => impl_rowsText.Z9 N v3 v6 v7 v8 k (fun v3 => K (.exit 0) (f29s5 v3))) (f29t9 N (K := seqK (fun σ => f29w8 N M σ K) K) ..) (fx4 fun v3 v6 v7 v8 => f29t8L N K M v3 v6 v7 v8) (by kernel_rfl)
theorem f29t8 N v6 v7 v8 (K : KT ρ) : f29i N (f29c 43) f29p8 (f29s3 v6 v7 v8) (joinK (some f29l5) K) =
  impl_rowsText.Z8 N v6 v7 v8 (fun v3 => K (.exit 0) (f29s5 v3)) :=
 viaLoopS (by kernel_rfl) (f29t8L N (joinK (some f29l5) K) N ([] : List ByteArray) v6 v7 v8) (by kernel_rfl)
noncomputable def f29p7 : Plan := .mk (some f29l5) none f29p8 .n
theorem f29t7 N v6 v7 v8 (K : KT ρ) : f29i N (f29c 27) f29p7 (f29s3 v6 v7 v8) (joinK (some f29l5) K) =
  impl_rowsText.Z7 N v6 v7 v8 (fun v3 => K .nrm (f29s5 v3)) :=
 viaBlockS (by kernel_rfl) (f29t8 N (K := blockK 0 (joinK (some f29l5) K)) ..) (by kernel_rfl)
noncomputable def f29p5 : Plan := .mk (some f29l3) none .n f29p7
theorem f29t5 N v0 (K : KT ρ) : f29i N (f29c 11) f29p5 (f29s2 v0) (joinK (some f29l5) K) =
  impl_rowsText.Z5 N v0 (fun v3 => K .nrm (f29s5 v3)) :=
 viaSeqS (fun k => impl_rowsText.Z6 N v0 k) (by kernel_rfl) (f29t6 N (K := seqK (fun σ => f29i N (f29c 27) f29p7 σ (joinK (some f29l5) K)) (joinK (some f29l5) K)) ..) (fx3 fun v6 v7 v8 => f29t7 N v6 v7 v8 K) (by kernel_rfl)
theorem f29t10 N v3 (K : KT ρ) : f29i N (f29c 15) .n (f29s5 v3) (joinK (some f29lE) K) =
  impl_rowsText.Z10 N v3 (fun v2 => K .ret (f29s6 v2)) := by kernel_rfl
noncomputable def f29p4 : Plan := .mk (some f29l5) none f29p5 .n
theorem f29t4 N v0 (K : KT ρ) : f29i N (f29c 7) f29p4 (f29s2 v0) (joinK (some f29lE) K) =
  impl_rowsText.Z4 N v0 (fun v2 => K .ret (f29s6 v2)) :=
 viaSeqS (fun k => impl_rowsText.Z5 N v0 k) (by kernel_rfl) (f29t5 N (K := seqK (fun σ => f29i N (f29c 15) .n σ (joinK (some f29lE) K)) (joinK (some f29lE) K)) ..) (funext fun v3 => f29t10 N v3 K) (by kernel_rfl)
noncomputable def f29p2 : Plan := .mk (some f29l2) none .n f29p4
theorem f29t2 N v0 (K : KT ρ) : f29i N (f29c 3) f29p2 (f29s1 v0) (joinK (some f29lE) K) =
  impl_rowsText.Z2 N v0 (fun v2 => K .ret (f29s6 v2)) :=
 viaSeqS (fun k => impl_rowsText.Z3 N v0 k) (by kernel_rfl) (f29t3 N (K := seqK (fun σ => f29i N (f29c 7) f29p4 σ (joinK (some f29lE) K)) (joinK (some f29lE) K)) ..) (funext fun v0 => f29t4 N v0 K) (by kernel_rfl)
noncomputable def f29p0 : Plan := .mk (some f29l1) none .n f29p2
theorem f29t0 N v0 (K : KT ρ) : f29i N (f29c 1) f29p0 (f29s0 v0) (joinK (some f29lE) K) =
  impl_rowsText.Z0 N v0 (fun v2 => K .ret (f29s6 v2)) :=
 viaSeqS (fun k => impl_rowsText.Z1 N v0 k) (by kernel_rfl) (f29t1 N (K := seqK (fun σ => f29i N (f29c 3) f29p2 σ (joinK (some f29lE) K)) (joinK (some f29lE) K)) ..) (funext fun v0 => f29t2 N v0 K) (by kernel_rfl)
theorem f29m (N : Nat) (v0 : LL) : f29i N (f29c 1) f29p0 (f29s0 v0) (joinK (some f29lE) (finK tab f29sig Tryd.f29.results.toList)) = impl_rowsText.Z0 N v0 (fun v2 => some ((), (v2, ()))) :=
  (f29t0 N v0 (finK tab f29sig Tryd.f29.results.toList)).trans (by kernel_rfl)
theorem f29ok (h : impl_rowsText.Spec) : EntryOk Tryd.prog 29 e29 :=
  entry_of_code (sig := f29sig) (c := (f29c 1)) (pl := f29p0) (je := (some f29lE)) (B := f29B) Tryd.func29 (by kernel_rfl) (by kernel_rfl) (by kernel_rfl) tabOk f29GOk (by kernel_rfl) (by kernel_rfl) (by kernel_rfl) (by kernel_rfl) fun X hb hp => by
    obtain ⟨v0, _⟩ := X
    obtain ⟨N, h⟩ := h v0 hb.1 hp
    exact ⟨N, (f29m N v0).trans (h N (Nat.le_refl N))⟩
theorem e29ok : EntryOk Tryd.prog 29 e29 := f29ok impl_rowsText.ok
end Go.Fw
namespace Go.Fw
variable {ρ : Type}
open Go.Proofs
noncomputable def f13sig : Sig := ⟨[⟨.pair (.int .i64) (.pair (.int .i64) (.sl 3 (.int .i64))), true, false⟩], [⟨.str, false, false⟩]⟩
noncomputable def e13 : Entry := ⟨f13sig, none, fun X => ((), ((impl_FormatMatrix.g X.1), ()))⟩
noncomputable def f13G : Gm := addG (addG emptyG 28 e28) 29 e29
theorem f13GOk : GOk Tryd.prog f13G := ((GOk.nil).add e28ok (by kernel_rfl)).add e29ok (by kernel_rfl)
noncomputable def f13lE : Clean := ⟨[], [], [], [], []⟩
noncomputable def f13s0 (v0 : MT) : St := initSt f13sig.ps (v0, ())
noncomputable def f13s1 (v1_0 v1_1 : Int) (v1_2 : LI) : St := stOf [(1, xb 1)] [(1, (38, [yi v1_0, yi v1_1, .sn 3 tI v1_2 none]))] []
noncomputable def f13l1 : Clean := ⟨[1], [1], [], [], []⟩
noncomputable def f13s2 (v1_0 v1_1 : Int) (v1_2 : LI) : St := stOf [(1, xb 1), (3, .c (.nil))] [(1, (38, [yi v1_0, yi v1_1, .sn 3 tI v1_2 none]))] []
noncomputable def f13l2 : Clean := ⟨[1, 3], [1], [], [], []⟩
noncomputable def f13s3 (v4 v1_0 v1_1 : Int) (v1_2 : LI) : St := stOf [(1, xb 1), (3, .c (.nil)), (4, xi v4)] [(1, (38, [yi v1_0, yi v1_1, .sn 3 tI v1_2 none]))] []
noncomputable def f13l3 : Clean := ⟨[1, 3, 4], [1], [], [], []⟩
noncomputable def f13s4 (v3 : LL) (v4 v1_0 v1_1 : Int) (v1_2 : LI) : St := stOf [(1, xb 1), (3, xo 1000192), (4, xi v4)] [(1, (38, [yi v1_0, yi v1_1, .sn 3 tI v1_2 none]))] [(1000192, (⟨33, .sl 3 tI, v3, false, false⟩ : Row))]
noncomputable def f13l4 : Clean := ⟨[1, 3, 4], [1], [⟨⟨false, 3, 0⟩, 30000000, 33, .sl 3 (.int .i64), false⟩], [], [(⟨false, 3, 0⟩, 1000192)]⟩
noncomputable def f13s5 (v3 : LL) : St := stOf [(3, xo 1000192)] [] [(1000192, (⟨33, .sl 3 tI, v3, false, false⟩ : Row))]
noncomputable def f13l5 : Clean := ⟨[3], [], [], [], [(⟨false, 3, 0⟩, 1000192)]⟩
noncomputable def f13s6 (v2 : ByteArray) : St := stOf [(2, .c (.str v2))] [] []
noncomputable def f13l6 : Clean := ⟨[2], [], [], [], []⟩
noncomputable def f13B : Nat → Option Clean := lookL [(0, f13l5), (1000000, f13l6)]
noncomputable abbrev f13i {ρ : Type} (N : Nat) (c : Code) (p : Plan) (σ : St) (K : KT ρ) : Option ρ := iCode f13G tab f13B N c p σ K
noncomputable def f13c (n : Nat) : Code := codeN 99 (bodyOf Tryd.f13) n
theorem f13t1 N v0 (K : KT ρ) : f13i N (f13c 2) .n (f13s0 v0) (joinK (some f13l1) K) =
  impl_FormatMatrix.Z1 N v0 (fun v1_0 v1_1 v1_2 => K .nrm (f13s1 v1_0 v1_1 v1_2)) := by kernel_rfl
theorem f13t3 N v1_0 v1_1 v1_2 (K : KT ρ) : f13i N (f13c 5) .n (f13s1 v1_0 v1_1 v1_2) (joinK (some f13l1) K) =
  impl_FormatMatrix.Z3 N v1_0 v1_1 v1_2 (fun v1_0 v1_1 v1_2 => K .nrm (f13s1 v1_0 v1_1 v1_2)) (fun v2 => K .ret (f13s6 v2)) := by kernel_rfl
theorem f13t5 N v1_0 v1_1 v1_2 (K : KT ρ) : f13i N (f13c 11) .n (f13s1 v1_0 v1_1 v1_2) (joinK (some f13l2) K) =
  impl_FormatMatrix.Z5 N v1_0 v1_1 v1_2 (fun v1_0 v1_1 v1_2 => K .nrm (f13s2 v1_0 v1_1 v1_2)) := by kernel_rfl
theorem f13t8 N v1_0 v1_1 v1_2 (K : KT ρ) : f13i N (f13c 39) .n (f13s2 v1_0 v1_1 v1_2) (joinK (some f13l3) K) =
  impl_FormatMatrix.Z8 N v1_0 v1_1 v1_2 (fun v4 v1_0 v1_1 v1_2 => K .nrm (f13s3 v4 v1_0 v1_1 v1_2)) := by kernel_rfl
theorem f13t11 N v3 v4 v1_0 v1_1 v1_2 (K : KT ρ) : f13i N (f13c 151) .n (f13s4 v3 v4 v1_0 v1_1 v1_2) (joinK (some f13l4) K) =
  impl_FormatMatrix.Z11 N v3 v4 v1_0 v1_1 v1_2 (fun v3 v4 v1_0 v1_1 v1_2 => K .nrm (f13s4 v3 v4 v1_0 v1_1 v1_2)) (fun v3 => K (.exit 0) (f13s5 v3)) := by kernel_rfl
noncomputable def f13p10 : Plan := .mk none (some f13l4) .n .n
noncomputable abbrev f13w10 {ρ : Type} (N M : Nat) (σ : St) (K : KT ρ) : Option ρ := loopC (fun σ K => f13i N (f13c 151) .n σ K) f13l4 M σ K
theorem f13t10L {ρ : Type} (N : Nat) (K : KT ρ) : ∀ (M : Nat) (v3 : LL) (v4 v1_0 v1_1 : Int) (v1_2 : LI), f13w10 N M (f13s4 v3 v4 v1_0 v1_1 v1_2) K =
  impl_FormatMatrix.Z10L N (fun v3 => K (.exit 0) (f13s5 v3)) M v3 v4 v1_0 v1_1 v1_2
  | 0, _, _, _, _, _ => rfl
  | M + 1, v3, v4, v1_0, v1_1, v1_2 => viaRoundS (fun k => impl_FormatMatrix.Z11 N v3 v4 v1_0 v1_1 v1_2 k (fun v3 => K (.exit 0) (f13s5 v3))) (f13t11 N (K := seqK (fun σ => f13w10 N M σ K) K) ..) (fx5 fun v3 v4 v1_0 v1_1 v1_2 => f13t10L N K M v3 v4 v1_0 v1_1 v1_2) (by kernel_rfl)
theorem f13t10 N v4 v1_0 v1_1 v1_2 (K : KT ρ) : f13i N (f13c 87) f13p10 (f13s3 v4 v1_0 v1_1 v1_2) (joinK (some f13l5) K) =
  impl_FormatMatrix.Z10 N v4 v1_0 v1_1 v1_2 (fun v3 => K (.exit 0) (f13s5 v3)) :=
 viaLoopS (by kernel_rfl) (f13t10L N (joinK (some f13l5) K) N ([] : List (LI)) v4 v1_0 v1_1 v1_2) (by kernel_rfl)
noncomputable def f13p9 : Plan := .mk (some f13l5) none f13p10 .n
theorem f13t9 N v4 v1_0 v1_1 v1_2 (K : KT ρ) : f13i N (f13c 55) f13p9 (f13s3 v4 v1_0 v1_1 v1_2) (joinK (some f13l5) K) =
  impl_FormatMatrix.Z9 N v4 v1_0 v1_1 v1_2 (fun v3 => K .nrm (f13s5 v3)) :=
 viaBlockS (by kernel_rfl) (f13t10 N (K := blockK 0 (joinK (some f13l5) K)) ..) (by kernel_rfl)
noncomputable def f13p7 : Plan := .mk (some f13l3) none .n f13p9
theorem f13t7 N v1_0 v1_1 v1_2 (K : KT ρ) : f13i N (f13c 23) f13p7 (f13s2 v1_0 v1_1 v1_2) (joinK (some f13l5) K) =
  impl_FormatMatrix.Z7 N v1_0 v1_1 v1_2 (fun v3 => K .nrm (f13s5 v3)) :=
 viaSeqS (fun k => impl_FormatMatrix.Z8 N v1_0 v1_1 v1_2 k) (by kernel_rfl) (f13t8 N (K := seqK (fun σ => f13i N (f13c 55) f13p9 σ (joinK (some f13l5) K)) (joinK (some f13l5) K)) ..) (fx4 fun v4 v1_0 v1_1 v1_2 => f13t9 N v4 v1_0 v1_1 v1_2 K) (by kernel_rfl)
theorem f13t12 N v3 (K : KT ρ) : f13i N (f13c 31) .n (f13s5 v3) (joinK (some f13lE) K) =
  impl_FormatMatrix.Z12 N v3 (fun v2 => K .ret (f13s6 v2)) := by kernel_rfl
noncomputable def f13p6 : Plan := .mk (some f13l5) none f13p7 .n
theorem f13t6 N v1_0 v1_1 v1_2 (K : KT ρ) : f13i N (f13c 15) f13p6 (f13s2 v1_0 v1_1 v1_2) (joinK (some f13lE) K) =
  impl_FormatMatrix.Z6 N v1_0 v1_1 v1_2 (fun v2 => K .ret (f13s6 v2)) :=
 viaSeqS (fun k => impl_FormatMatrix.Z7 N v1_0 v1_1 v1_2 k) (by kernel_rfl) (f13t7 N (K := seqK (fun σ => f13i N (f13c 31) .n σ (joinK (some f13lE) K)) (joinK (some f13lE) K)) ..) (funext fun v3 => f13t12 N v3 K) (by kernel_rfl)
noncomputable def f13p4 : Plan := .mk (some f13l2) none .n f13p6
theorem f13t4 N v1_0 v1_1 v1_2 (K : KT ρ) : f13i N (f13c 7) f13p4 (f13s1 v1_0 v1_1 v1_2) (joinK (some f13lE) K) =
  impl_FormatMatrix.Z4 N v1_0 v1_1 v1_2 (fun v2 => K .ret (f13s6 v2)) :=
 viaSeqS (fun k => impl_FormatMatrix.Z5 N v1_0 v1_1 v1_2 k) (by kernel_rfl) (f13t5 N (K := seqK (fun σ => f13i N (f13c 15) f13p6 σ (joinK (some f13lE) K)) (joinK (some f13lE) K)) ..) (fx3 fun v1_0 v1_1 v1_2 => f13t6 N v1_0 v1_1 v1_2 K) (by kernel_rfl)
noncomputable def f13p2 : Plan := .mk (some f13l1) none .n f13p4
theorem f13t2 N v1_0 v1_1 v1_2 (K : KT ρ) : f13i N (f13c 3) f13p2 (f13s1 v1_0 v1_1 v1_2) (joinK (some f13lE) K) =
  impl_FormatMatrix.Z2 N v1_0 v1_1 v1_2 (fun v2 => K .ret (f13s6 v2)) :=
 viaSeqS (fun k => impl_FormatMatrix.Z3 N v1_0 v1_1 v1_2 k (fun v2 => K .ret (f13s6 v2))) (by kernel_rfl) (f13t3 N (K := seqK (fun σ => f13i N (f13c 7) f13p4 σ (joinK (some f13lE) K)) (joinK (some f13lE) K)) ..) (fx3 fun v1_0 v1_1 v1_2 => f13t4 N v1_0 v1_1 v1_2 K) (by kernel_rfl)
noncomputable def f13p0 : Plan := .mk (some f13l1) none .n f13p2
theorem f13t0 N v0 (K : KT ρ) : f13i N (f13c 1) f13p0 (f13s0 v0) (joinK (some f13lE) K) =
  impl_FormatMatrix.Z0 N v0 (fun v2 => K .ret (f13s6 v2)) :=
 viaSeqS (fun k => impl_FormatMatrix.Z1 N v0 k) (by kernel_rfl) (f13t1 N (K := seqK (fun σ => f13i N (f13c 3) f13p2 σ (joinK (some f13lE) K)) (joinK (some f13lE) K)) ..) (fx3 fun v1_0 v1_1 v1_2 => f13t2 N v1_0 v1_1 v1_2 K) (by kernel_rfl)
theorem f13m (N : Nat) (v0 : MT) : f13i N (f13c 1) f13p0 (f13s0 v0) (joinK (some f13lE) (finK tab f13sig Tryd.f13.results.toList)) = impl_FormatMatrix.Z0 N v0 (fun v2 => some ((), (v2, ()))) :=
  (f13t0 N v0 (finK tab f13sig Tryd.f13.results.toList)).trans (by kernel_rfl)
theorem f13ok (h : impl_FormatMatrix.Spec) : EntryOk Tryd.prog 13 e13 :=
  entry_of_code (sig := f13sig) (c := (f13c 1)) (pl := f13p0) (je := (some f13lE)) (B := f13B) Tryd.func13 (by kernel_rfl) (by kernel_rfl) (by kernel_rfl) tabOk f13GOk (by kernel_rfl) (by kernel_rfl) (by kernel_rfl) (by kernel_rfl) fun X hb hp => by
    obtain ⟨v0, _⟩ := X
    obtain ⟨N, h⟩ := h v0 hb.1
    exact ⟨N, (f13m N v0).trans (h N (Nat.le_refl N))⟩
theorem e13ok : EntryOk Tryd.prog 13 e13 := f13ok impl_FormatMatrix.ok
end Go.Fw
namespace Go.Fw
variable {ρ : Type}
open Go.Proofs
noncomputable def f30sig : Sig := ⟨[⟨.sl 3 (.int .i64), false, false⟩, ⟨.sl 3 (.int .i64), false, false⟩], [⟨.bool, false, false⟩]⟩
noncomputable def e30 : Entry := ⟨f30sig, none, fun X => ((), ((laws_eqIntS.g X.1 X.2.1), ()))⟩
noncomputable def f30G : Gm := emptyG
theorem f30GOk : GOk Tryd.prog f30G := GOk.nil
noncomputable def f30lE : Clean := ⟨[], [], [], [], []⟩
noncomputable def f30s0 (v0 v1 : LI) : St := initSt f30sig.ps (v0, (v1, ()))
noncomputable def f30s1 (v0 v1 : LI) : St := stOf [(0, .c (.sn 3 tI v0 none)), (1, .c (.sn 3 tI v1 none))] [] []
noncomputable def f30l1 : Clean := ⟨[0, 1], [], [], [], []⟩
noncomputable def f30s2 (v0 v1 : LI) (v5 : Int) : St := stOf [(0, .c (.sn 3 tI v0 none)), (1, .c (.sn 3 tI v1 none)), (5, xi v5)] [] []
noncomputable def f30l2 : Clean := ⟨[0, 1, 5], [], [], [], []⟩
noncomputable def f30s3  : St := stOf [] [] []
noncomputable def f30l3 : Clean := ⟨[], [], [], [], []⟩
noncomputable def f30s4 (v4 : Bool) : St := stOf [(4, xB v4)] [] []
noncomputable def f30l4 : Clean := ⟨[4], [], [], [], []⟩
noncomputable def f30B : Nat → Option Clean := lookL [(0, f30l3), (1000000, f30l4)]
noncomputable abbrev f30i {ρ : Type} (N : Nat) (c : Code) (p : Plan) (σ : St) (K : KT ρ) : Option ρ := iCode f30G tab f30B N c p σ K
noncomputable def f30c (n : Nat) : Code := codeN 99 (bodyOf Tryd.f30) n
theorem f30t1 N v0 v1 (K : KT ρ) : f30i N (f30c 2) .n (f30s0 v0 v1) (joinK (some f30l1) K) =
  laws_eqIntS.Z1 N v0 v1 (fun v0 v1 => K .nrm (f30s1 v0 v1)) := by kernel_rfl
theorem f30t3 N v0 v1 (K : KT ρ) : f30i N (f30c 5) .n (f30s1 v0 v1) (joinK (some f30l1) K) =
  laws_eqIntS.Z3 N v0 v1 (fun v0 v1 => K .nrm (f30s1 v0 v1)) (fun v4 => K .ret (f30s4 v4)) := by kernel_rfl
theorem f30t6 N v0 v1 (K : KT ρ) : f30i N (f30c 19) .n (f30s1 v0 v1) (joinK (some f30l2) K) =
  laws_eqIntS.Z6 N v0 v1 (fun v0 v1 v5 => K .nrm (f30s2 v0 v1 v5)) := by kernel_rfl
theorem f30t9 N v0 v1 v5 (K : KT ρ) : f30i N (f30c 75) .n (f30s2 v0 v1 v5) (joinK (some f30l2) K) =
  laws_eqIntS.Z9 N v0 v1 v5 (fun v0 v1 v5 => K .nrm (f30s2 v0 v1 v5)) (K (.exit 0) f30s3) (fun v4 => K .ret (f30s4 v4)) := by kernel_rfl
noncomputable def f30p8 : Plan := .mk none (some f30l2) .n .n
noncomputable abbrev f30w8 {ρ : Type} (N M : Nat) (σ : St) (K : KT ρ) : Option ρ := loopC (fun σ K => f30i N (f30c 75) .n σ K) f30l2 M σ K
theorem f30t8L {ρ : Type} (N : Nat) (K : KT ρ) : ∀ (M : Nat) (v0 v1 : LI) (v5 : Int), f30w8 N M (f30s2 v0 v1 v5) K =
  laws_eqIntS.Z8L N (K (.exit 0) f30s3) (fun v4 => K .ret (f30s4 v4)) M v0 v1 v5
  | 0, _, _, _ => rfl
  | M + 1, v0, v1, v5 => viaRoundS (fun k => laws_eqIntS.Z9 N v0 v1 v5 k (K (.exit 0) f30s3) (fun v4 => K .ret (f30s4 v4))) (f30t9 N (K := seqK (fun σ => f30w8 N M σ K) K) ..) (fx3 fun v0 v1 v5 => f30t8L N K M v0 v1 v5) (by kernel_rfl)
theorem f30t8 N v0 v1 v5 (K : KT ρ) : f30i N (f30c 43) f30p8 (f30s2 v0 v1 v5) (joinK (some f30l3) K) =
  laws_eqIntS.Z8 N v0 v1 v5 (K (.exit 0) f30s3) (fun v4 => K .ret (f30s4 v4)) :=
 viaLoopS (by kernel_rfl) (f30t8L N (joinK (some f30l3) K) N v0 v1 v5) (by kernel_rfl)
noncomputable def f30p7 : Plan := .mk (some f30l3) none f30p8 .n
theorem f30t7 N v0 v1 v5 (K : KT ρ) : f30i N (f30c 27) f30p7 (f30s2 v0 v1 v5) (joinK (some f30l3) K) =
  laws_eqIntS.Z7 N v0 v1 v5 (K .nrm f30s3) (fun v4 => K .ret (f30s4 v4)) :=
 viaBlockS (by kernel_rfl) (f30t8 N (K := blockK 0 (joinK (some f30l3) K)) ..) (by kernel_rfl)
noncomputable def f30p5 : Plan := .mk (some f30l2) none .n f30p7
theorem f30t5 N v0 v1 (K : KT ρ) : f30i N (f30c 11) f30p5 (f30s1 v0 v1) (joinK (some f30l3) K) =
  laws_eqIntS.Z5 N v0 v1 (K .nrm f30s3) (fun v4 => K .ret (f30s4 v4)) :=
 viaSeqS (fun k => laws_eqIntS.Z6 N v0 v1 k) (by kernel_rfl) (f30t6 N (K := seqK (fun σ => f30i N (f30c 27) f30p7 σ (joinK (some f30l3) K)) (joinK (some f30l3) K)) ..) (fx3 fun v0 v1 v5 => f30t7 N v0 v1 v5 K) (by kernel_rfl)
theorem f30t10 N  (K : KT ρ) : f30i N (f30c 15) .n f30s3 (joinK (some f30lE) K) =
  laws_eqIntS.Z10 N (fun v4 => K .ret (f30s4 v4)) := by kernel_rfl
noncomputable def f30p4 : Plan := .mk (some f30l3) none f30p5 .n
theorem f30t4 N v0 v1 (K : KT ρ) : f30i N (f30c 7) f30p4 (f30s1 v0 v1) (joinK (some f30lE) K) =
  laws_eqIntS.Z4 N v0 v1 (fun v4 => K .ret (f30s4 v4)) :=
 viaSeqS (fun k => laws_eqIntS.Z5 N v0 v1 k (fun v4 => K .ret (f30s4 v4))) (by kernel_rfl) (f30t5 N (K := seqK (fun σ => f30i N (f30c 15) .n σ (joinK (some f30lE) K)) (joinK (some f30lE) K)) ..) (f30t10 N K) (by kernel_rfl)
noncomputable def f30p2 : Plan := .mk (some f30l1) none .n f30p4
theorem f30t2 N v0 v1 (K : KT ρ) : f30i N (f30c 3) f30p2 (f30s1 v0 v1) (joinK (some f30lE) K) =
  laws_eqIntS.Z2 N v0 v1 (fun v4 => K .ret (f30s4 v4)) :=
 viaSeqS (fun k => laws_eqIntS.Z3 N v0 v1 k (fun v4 => K .ret (f30s4 v4))) (by kernel_rfl) (f30t3 N (K := seqK (fun σ => f30i N (f30c 7) f30p4 σ (joinK (some f30lE) K)) (joinK (some f30lE) K)) ..) (fx2 fun v0 v1 => f30t4 N v0 v1 K) (by kernel_rfl)
noncomputable def f30p0 : Plan := .mk (some f30l1) none .n f30p2
theorem f30t0 N v0 v1 (K : KT ρ) : f30i N (f30c 1) f30p0 (f30s0 v0 v1) (joinK (some f30lE) K) =
  laws_eqIntS.Z0 N v0 v1 (fun v4 => K .ret (f30s4 v4)) :=
 viaSeqS (fun k => laws_eqIntS.Z1 N v0 v1 k) (by kernel_rfl) (f30t1 N (K := seqK (fun σ => f30i N (f30c 3) f30p2 σ (joinK (some f30lE) K)) (joinK (some f30lE) K)) ..) (fx2 fun v0 v1 => f30t2 N v0 v1 K) (by kernel_rfl)
theorem f30m (N : Nat) (v0 v1 : LI) : f30i N (f30c 1) f30p0 (f30s0 v0 v1) (joinK (some f30lE) (finK tab f30sig Tryd.f30.results.toList)) = laws_eqIntS.Z0 N v0 v1 (fun v4 => some ((), (v4, ()))) :=
  (f30t0 N v0 v1 (finK tab f30sig Tryd.f30.results.toList)).trans (by kernel_rfl)
theorem f30ok (h : laws_eqIntS.Spec) : EntryOk Tryd.prog 30 e30 :=
  entry_of_code (sig := f30sig) (c := (f30c 1)) (pl := f30p0) (je := (some f30lE)) (B := f30B) Tryd.func30 (by kernel_rfl) (by kernel_rfl) (by kernel_rfl) tabOk f30GOk (by kernel_rfl) (by kernel_rfl) (by kernel_rfl) (by kernel_rfl) fun X hb hp => by
    obtain ⟨v0, v1, _⟩ := X
    obtain ⟨N, h⟩ := h v0 v1 hb.1 hb.2.1
    exact ⟨N, (f30m N v0 v1).trans (h N (Nat.le_refl N))⟩
theorem e30ok : EntryOk Tryd.prog 30 e30 := f30ok laws_eqIntS.ok
end Go.Fw
namespace Go.Fw
variable {ρ : Type}
open Go.Proofs
noncomputable def f14sig : Sig := ⟨[⟨.pair (.int .i64) (.pair (.int .i64) (.sl 3 (.int .i64))), true, false⟩, ⟨.pair (.int .i64) (.pair (.int .i64) (.sl 3 (.int .i64))), true, false⟩], [⟨.bool, false, false⟩]⟩
noncomputable def e14 : Entry := ⟨f14sig, none, fun X => ((), ((laws_eqMatrix.g X.1 X.2.1), ()))⟩
noncomputable def f14G : Gm := addG emptyG 30 e30
theorem f14GOk : GOk Tryd.prog f14G := (GOk.nil).add e30ok (by kernel_rfl)
noncomputable def f14lE : Clean := ⟨[], [], [], [], []⟩
noncomputable def f14s0 (v0 v1 : MT) : St := initSt f14sig.ps (v0, (v1, ()))
noncomputable def f14s1 (v4 : Bool) : St := stOf [(4, xB v4)] [] []
noncomputable def f14l1 : Clean := ⟨[4], [], [], [], []⟩
noncomputable def f14B : Nat → Option Clean := lookL [(1000000, f14l1)]
noncomputable abbrev f14i {ρ : Type} (N : Nat) (c : Code) (p : Plan) (σ : St) (K : KT ρ) : Option ρ := iCode f14G tab f14B N c p σ K
noncomputable def f14c (n : Nat) : Code := codeN 99 (bodyOf Tryd.f14) n
theorem f14t0 N v0 v1 (K : KT ρ) : f14i N (f14c 1) .n (f14s0 v0 v1) (joinK (some f14lE) K) =
  laws_eqMatrix.Z0 N v0 v1 (fun v4 => K .ret (f14s1 v4)) := by kernel_rfl
theorem f14m (N : Nat) (v0 v1 : MT) : f14i N (f14c 1) .n (f14s0 v0 v1) (joinK (some f14lE) (finK tab f14sig Tryd.f14.results.toList)) = laws_eqMatrix.Z0 N v0 v1 (fun v4 => some ((), (v4, ()))) :=
  (f14t0 N v0 v1 (finK tab f14sig Tryd.f14.results.toList)).trans (by kernel_rfl)
theorem f14ok (h : laws_eqMatrix.Spec) : EntryOk Tryd.prog 14 e14 :=
  entry_of_code (sig := f14sig) (c := (f14c 1)) (pl := .n) (je := (some f14lE)) (B := f14B) Tryd.func14 (by kernel_rfl) (by kernel_rfl) (by kernel_rfl) tabOk f14GOk (by kernel_rfl) (by kernel_rfl) (by kernel_rfl) (by kernel_rfl) fun X hb hp => by
    obtain ⟨v0, v1, _⟩ := X
    obtain ⟨N, h⟩ := h v0 v1 hb.1 hb.2.1
    exact ⟨N, (f14m N v0 v1).trans (h N (Nat.le_refl N))⟩
theorem e14ok : EntryOk Tryd.prog 14 e14 := f14ok laws_eqMatrix.ok
end Go.Fw
namespace Go.Fw
variable {ρ : Type}
open Go.Proofs
noncomputable def f4sig : Sig := ⟨[⟨.pair (.int .i64) (.pair (.int .i64) (.sl 3 (.int .i64))), true, false⟩], [⟨.bool, false, false⟩]⟩
noncomputable def e4 : Entry := ⟨f4sig, none, fun X => ((), ((laws_FnExactFormatMatrix.g X.1), ()))⟩
noncomputable def f4G : Gm := addG (addG (addG (addG (addG emptyG 10 e10) 11 e11) 12 e12) 13 e13) 14 e14
theorem f4GOk : GOk Tryd.prog f4G := (((((GOk.nil).add e10ok (by kernel_rfl)).add e11ok (by kernel_rfl)).add e12ok (by kernel_rfl)).add e13ok (by kernel_rfl)).add e14ok (by kernel_rfl)
noncomputable def f4lE : Clean := ⟨[], [], [], [], []⟩
noncomputable def f4s0 (v0 : MT) : St := initSt f4sig.ps (v0, ())
noncomputable def f4s1 (v2 : Bool) : St := stOf [(2, xB v2)] [] []
noncomputable def f4l1 : Clean := ⟨[2], [], [], [], []⟩
noncomputable def f4B : Nat → Option Clean := lookL [(1000000, f4l1)]
noncomputable abbrev f4i {ρ : Type} (N : Nat) (c : Code) (p : Plan) (σ : St) (K : KT ρ) : Option ρ := iCode f4G tab f4B N c p σ K
noncomputable def f4c (n : Nat) : Code := codeN 99 (bodyOf Tryd.f4) n
theorem f4t0 N v0 (K : KT ρ) : f4i N (f4c 1) .n (f4s0 v0) (joinK (some f4lE) K) =
  laws_FnExactFormatMatrix.Z0 N v0 (fun v2 => K .ret (f4s1 v2)) := by kernel_rfl
theorem f4m (N : Nat) (v0 : MT) : f4i N (f4c 1) .n (f4s0 v0) (joinK (some f4lE) (finK tab f4sig Tryd.f4.results.toList)) = laws_FnExactFormatMatrix.Z0 N v0 (fun v2 => some ((), (v2, ()))) :=
  (f4t0 N v0 (finK tab f4sig Tryd.f4.results.toList)).trans (by kernel_rfl)
theorem f4ok (h : laws_FnExactFormatMatrix.Spec) : EntryOk Tryd.prog 4 e4 :=
  entry_of_code (sig := f4sig) (c := (f4c 1)) (pl := .n) (je := (some f4lE)) (B := f4B) Tryd.func4 (by kernel_rfl) (by kernel_rfl) (by kernel_rfl) tabOk f4GOk (by kernel_rfl) (by kernel_rfl) (by kernel_rfl) (by kernel_rfl) fun X hb hp => by
    obtain ⟨v0, _⟩ := X
    obtain ⟨N, h⟩ := h v0 hb.1
    exact ⟨N, (f4m N v0).trans (h N (Nat.le_refl N))⟩
theorem e4ok : EntryOk Tryd.prog 4 e4 := f4ok laws_FnExactFormatMatrix.ok
end Go.Fw
