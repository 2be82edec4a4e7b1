/- The ties: the program's text comes to the plain functions. Nothing is assumed. -/
import Derived.Test.YtillpdbmnjkjiaaDoorFza
import Derived.Test.YtillpdbmnjkjiaaDoorProg
import Derived.Test.YtillpdbmnjkjiaaDoorPuFnExactFormatLaurenta
import Derived.Test.YtillpdbmnjkjiaaDoorChecked
set_option linter.unusedVariables false
set_option linter.unusedSimpArgs false
set_option maxRecDepth 100000
namespace Go.Fw
open Go.Proofs
def tab : Tab := lookTab [
  (2, ⟨false, .int .i64, [.int .i64 0], [], none, 8⟩),
  (3, ⟨false, .int .i64, [.int .i64 0], [], none, 8⟩),
  (4, ⟨false, .bool, [.bool false], [], none, 1⟩),
  (5, ⟨false, .int .u8, [.int .u8 0], [], none, 1⟩),
  (6, ⟨false, .int .u8, [.int .u8 0], [], none, 1⟩),
  (7, ⟨true, .pair (.int .i64) (.pair (.int .i64) (.pair (.bool) (.int .u8))), [.int .i64 0, .int .i64 0, .bool false, .int .u8 0], [(0, 1, false), (1, 1, false), (2, 1, false), (3, 1, false)], none, 24⟩),
  (8, ⟨true, .pair (.int .i64) (.pair (.int .i64) (.pair (.bool) (.int .u8))), [.int .i64 0, .int .i64 0, .bool false, .int .u8 0], [(0, 1, false), (1, 1, false), (2, 1, false), (3, 1, false)], none, 24⟩),
  (9, ⟨false, .str, [.str ByteArray.empty], [], none, 16⟩),
  (10, ⟨false, .str, [.str ByteArray.empty], [], none, 16⟩),
  (11, ⟨false, .str, [.str ByteArray.empty], [], none, 16⟩),
  (12, ⟨false, .int .u64, [.int .u64 0], [], none, 8⟩),
  (13, ⟨true, .pair (.str) (.int .u64), [.str ByteArray.empty, .int .u64 0], [(0, 1, false), (1, 1, false)], none, 24⟩),
  (14, ⟨true, .pair (.str) (.int .u64), [.str ByteArray.empty, .int .u64 0], [(0, 1, false), (1, 1, false)], none, 24⟩),
  (21, ⟨false, .int .i32, [.int .i32 0], [], none, 4⟩),
  (22, ⟨false, .sl 59 (.pair (.sl 3 (.int .i64)) (.int .i64)), [.nil], [], some 59, 24⟩),
  (23, ⟨true, .pair (.int .i64) (.sl 59 (.pair (.sl 3 (.int .i64)) (.int .i64))), [.int .i64 0, .nil], [(0, 1, false), (1, 1, false)], none, 32⟩),
  (24, ⟨true, .pair (.int .i64) (.sl 59 (.pair (.sl 3 (.int .i64)) (.int .i64))), [.int .i64 0, .nil], [(0, 1, false), (1, 1, false)], none, 32⟩),
  (27, ⟨false, .sl 46 (.pair (.sl 3 (.int .i64)) (.int .i64)), [.nil], [], some 46, 24⟩),
  (28, ⟨true, .pair (.int .i64) (.sl 46 (.pair (.sl 3 (.int .i64)) (.int .i64))), [.int .i64 0, .nil], [(0, 1, false), (1, 1, false)], none, 32⟩),
  (29, ⟨true, .pair (.int .i64) (.sl 46 (.pair (.sl 3 (.int .i64)) (.int .i64))), [.int .i64 0, .nil], [(0, 1, false), (1, 1, false)], none, 32⟩),
  (33, ⟨false, .sl 3 (.int .i64), [.nil], [], some 3, 24⟩),
  (34, ⟨true, .pair (.int .i64) (.pair (.int .i64) (.sl 3 (.int .i64))), [.int .i64 0, .int .i64 0, .nil], [(0, 1, false), (1, 1, false), (2, 1, false)], none, 40⟩),
  (35, ⟨true, .pair (.int .i64) (.pair (.int .i64) (.sl 3 (.int .i64))), [.int .i64 0, .int .i64 0, .nil], [(0, 1, false), (1, 1, false), (2, 1, false)], none, 40⟩),
  (38, ⟨true, .pair (.int .i64) (.pair (.int .i64) (.sl 3 (.int .i64))), [.int .i64 0, .int .i64 0, .nil], [(0, 1, false), (1, 1, false), (2, 1, false)], none, 40⟩),
  (45, ⟨true, .pair (.sl 3 (.int .i64)) (.int .i64), [.nil, .int .i64 0], [(0, 1, false), (1, 1, false)], none, 32⟩),
  (46, ⟨true, .pair (.sl 3 (.int .i64)) (.int .i64), [.nil, .int .i64 0], [(0, 1, false), (1, 1, false)], none, 32⟩),
  (49, ⟨false, .sl 9 (.str), [.nil], [], some 9, 24⟩),
  (55, ⟨false, .sl 33 (.sl 3 (.int .i64)), [.nil], [], some 33, 24⟩),
  (59, ⟨true, .pair (.sl 3 (.int .i64)) (.int .i64), [.nil, .int .i64 0], [(0, 1, false), (1, 1, false)], none, 32⟩),
  (61, ⟨false, .sl 5 (.int .u8), [.nil], [], some 5, 24⟩),
  (92, ⟨false, .int .u64, [.int .u64 0], [], none, 8⟩),
  (99, ⟨false, .int .u32, [.int .u32 0], [], none, 4⟩),
  (101, ⟨false, .int .u64, [.int .u64 0], [], none, 8⟩),
  (112, ⟨false, .int .u8, [.int .u8 0], [], none, 1⟩),
  (113, ⟨false, .int .u8, [.int .u8 0], [], none, 1⟩),
  (115, ⟨false, .int .i32, [.int .i32 0], [], none, 4⟩),
  (116, ⟨false, .int .i32, [.int .i32 0], [], none, 4⟩)]
theorem tabOk : TOk Tryd.prog tab := TOk.of (by kernel_rfl)
noncomputable def tabl : List (String × IntKind × List Int) := [("internal/strconv.uint64pow10", .u64, Lib.pow10Tab)]
noncomputable def intl : List (String × IntKind) := []
noncomputable instance : Inv Tryd.prog := Inv.tabs _ tabl intl
theorem tab0 (w : World) (h : Inv.I Tryd.prog w) : Lib.TabIs Tryd.prog w "internal/strconv.uint64pow10" .u64 Lib.pow10Tab := Inv.tab_mem (q := intl) ("internal/strconv.uint64pow10", .u64, Lib.pow10Tab) (List.mem_of_getElem? (i := 0) rfl) w h
end Go.Fw
namespace Go.Fw
variable {ρ : Type}
open Go.Proofs
noncomputable def f25sig : Sig := ⟨[⟨.sl 3 (.int .i64), false, false⟩, ⟨.int .i64, false, false⟩], [⟨.int .i64, false, false⟩]⟩
noncomputable def e25 : Entry := ⟨f25sig, none, fun X => ((), ((laws_szIntS.g X.1 X.2.1), ()))⟩
noncomputable def f25G : Gm := emptyG
theorem f25GOk : GOk Tryd.prog f25G := GOk.nil
noncomputable def f25lE : Clean := ⟨[], [], [], [], []⟩
noncomputable def f25s0 (v0 : LI) (v1 : Int) : St := initSt f25sig.ps (v0, (v1, ()))
noncomputable def f25s1 (v4 : Int) : St := stOf [(4, xi v4)] [] []
noncomputable def f25l1 : Clean := ⟨[4], [], [], [], []⟩
noncomputable def f25B : Nat → Option Clean := lookL [(1000000, f25l1)]
noncomputable abbrev f25i {ρ : Type} (N : Nat) (c : Code) (p : Plan) (σ : St) (K : KT ρ) : Option ρ := iCode f25G tab f25B N c p σ K
noncomputable def f25c (n : Nat) : Code := codeN 99 (bodyOf Tryd.f25) n
theorem f25t0 N v0 v1 (K : KT ρ) : f25i N (f25c 1) .n (f25s0 v0 v1) (joinK (some f25lE) K) =
  laws_szIntS.Z0 N v0 v1 (fun v4 => K .ret (f25s1 v4)) := by kernel_rfl
theorem f25m (N : Nat) (v0 : LI) (v1 : Int) : f25i N (f25c 1) .n (f25s0 v0 v1) (joinK (some f25lE) (finK tab f25sig Tryd.f25.results.toList)) = laws_szIntS.Z0 N v0 v1 (fun v4 => some ((), (v4, ()))) :=
  (f25t0 N v0 v1 (finK tab f25sig Tryd.f25.results.toList)).trans (by kernel_rfl)
theorem f25ok (h : laws_szIntS.Spec) : EntryOk Tryd.prog 25 e25 :=
  entry_of_code (sig := f25sig) (c := (f25c 1)) (pl := .n) (je := (some f25lE)) (B := f25B) Tryd.func25 (by kernel_rfl) (by kernel_rfl) (by kernel_rfl) tabOk f25GOk (by kernel_rfl) (by kernel_rfl) (by kernel_rfl) (by kernel_rfl) fun X hb hp => by
    obtain ⟨v0, v1, _⟩ := X
    obtain ⟨N, h⟩ := h v0 v1 hb.1
    exact ⟨N, (f25m N v0 v1).trans (h N (Nat.le_refl N))⟩
theorem e25ok : EntryOk Tryd.prog 25 e25 := f25ok laws_szIntS.ok
end Go.Fw
namespace Go.Fw
variable {ρ : Type}
open Go.Proofs
noncomputable def f31sig : Sig := ⟨[⟨.pair (.sl 3 (.int .i64)) (.int .i64), true, false⟩, ⟨.int .i64, false, false⟩], [⟨.int .i64, false, false⟩]⟩
noncomputable def e31 : Entry := ⟨f31sig, none, fun X => ((), ((laws_szTerm.g X.1 X.2.1), ()))⟩
noncomputable def f31G : Gm := addG emptyG 25 e25
theorem f31GOk : GOk Tryd.prog f31G := (GOk.nil).add e25ok (by kernel_rfl)
noncomputable def f31lE : Clean := ⟨[], [], [], [], []⟩
noncomputable def f31s0 (v0 : LI × Int) (v1 : Int) : St := initSt f31sig.ps (v0, (v1, ()))
noncomputable def f31s1 (v4 : Int) : St := stOf [(4, xi v4)] [] []
noncomputable def f31l1 : Clean := ⟨[4], [], [], [], []⟩
noncomputable def f31B : Nat → Option Clean := lookL [(1000000, f31l1)]
noncomputable abbrev f31i {ρ : Type} (N : Nat) (c : Code) (p : Plan) (σ : St) (K : KT ρ) : Option ρ := iCode f31G tab f31B N c p σ K
noncomputable def f31c (n : Nat) : Code := codeN 99 (bodyOf Tryd.f31) n
theorem f31t0 N v0 v1 (K : KT ρ) : f31i N (f31c 1) .n (f31s0 v0 v1) (joinK (some f31lE) K) =
  laws_szTerm.Z0 N v0 v1 (fun v4 => K .ret (f31s1 v4)) := by kernel_rfl
theorem f31m (N : Nat) (v0 : LI × Int) (v1 : Int) : f31i N (f31c 1) .n (f31s0 v0 v1) (joinK (some f31lE) (finK tab f31sig Tryd.f31.results.toList)) = laws_szTerm.Z0 N v0 v1 (fun v4 => some ((), (v4, ()))) :=
  (f31t0 N v0 v1 (finK tab f31sig Tryd.f31.results.toList)).trans (by kernel_rfl)
theorem f31ok (h : laws_szTerm.Spec) : EntryOk Tryd.prog 31 e31 :=
  entry_of_code (sig := f31sig) (c := (f31c 1)) (pl := .n) (je := (some f31lE)) (B := f31B) Tryd.func31 (by kernel_rfl) (by kernel_rfl) (by kernel_rfl) tabOk f31GOk (by kernel_rfl) (by kernel_rfl) (by kernel_rfl) (by kernel_rfl) fun X hb hp => by
    obtain ⟨v0, v1, _⟩ := X
    obtain ⟨N, h⟩ := h v0 v1 hb.1
    exact ⟨N, (f31m N v0 v1).trans (h N (Nat.le_refl N))⟩
theorem e31ok : EntryOk Tryd.prog 31 e31 := f31ok laws_szTerm.ok
end Go.Fw
namespace Go.Fw
variable {ρ : Type}
open Go.Proofs
noncomputable def f15sig : Sig := ⟨[⟨.sl 59 (.pair (.sl 3 (.int .i64)) (.int .i64)), false, false⟩, ⟨.int .i64, false, false⟩], [⟨.int .i64, false, false⟩]⟩
noncomputable def e15 : Entry := ⟨f15sig, none, fun X => ((), ((laws_szTermS.g X.1 X.2.1), ()))⟩
noncomputable def f15G : Gm := addG emptyG 31 e31
theorem f15GOk : GOk Tryd.prog f15G := (GOk.nil).add e31ok (by kernel_rfl)
noncomputable def f15lE : Clean := ⟨[], [], [], [], []⟩
noncomputable def f15s0 (v0 : List (LI × Int)) (v1 : Int) : St := initSt f15sig.ps (v0, (v1, ()))
noncomputable def f15s1 (v0 : List (LI × Int)) (v1 : Int) : St := stOf [(0, .c (.sn 59 (.pair (.sl 3 tI) tI) v0 none)), (1, xi v1)] [] []
noncomputable def f15l1 : Clean := ⟨[0, 1], [], [], [], []⟩
noncomputable def f15s2 (v0 : List (LI × Int)) (v1 v5 : Int) : St := stOf [(0, .c (.sn 59 (.pair (.sl 3 tI) tI) v0 none)), (1, xi v1), (5, xi v5)] [] []
noncomputable def f15l2 : Clean := ⟨[0, 1, 5], [], [], [], []⟩
noncomputable def f15s3 (v1 : Int) : St := stOf [(1, xi v1)] [] []
noncomputable def f15l3 : Clean := ⟨[1], [], [], [], []⟩
noncomputable def f15s4 (v4 : Int) : St := stOf [(4, xi v4)] [] []
noncomputable def f15l4 : Clean := ⟨[4], [], [], [], []⟩
noncomputable def f15B : Nat → Option Clean := lookL [(0, f15l3), (1000000, f15l4)]
noncomputable abbrev f15i {ρ : Type} (N : Nat) (c : Code) (p : Plan) (σ : St) (K : KT ρ) : Option ρ := iCode f15G tab f15B N c p σ K
noncomputable def f15c (n : Nat) : Code := codeN 99 (bodyOf Tryd.f15) n
theorem f15t1 N v0 v1 (K : KT ρ) : f15i N (f15c 2) .n (f15s0 v0 v1) (joinK (some f15l1) K) =
  laws_szTermS.Z1 N v0 v1 (fun v0 v1 => K .nrm (f15s1 v0 v1)) := by kernel_rfl
theorem f15t3 N v0 v1 (K : KT ρ) : f15i N (f15c 5) .n (f15s1 v0 v1) (joinK (some f15l1) K) =
  laws_szTermS.Z3 N v0 v1 (fun v0 v1 => K .nrm (f15s1 v0 v1)) := by kernel_rfl
theorem f15t5 N v0 v1 (K : KT ρ) : f15i N (f15c 11) .n (f15s1 v0 v1) (joinK (some f15l1) K) =
  laws_szTermS.Z5 N v0 v1 (fun v0 v1 => K .nrm (f15s1 v0 v1)) (fun v4 => K .ret (f15s4 v4)) := by kernel_rfl
theorem f15t8 N v0 v1 (K : KT ρ) : f15i N (f15c 39) .n (f15s1 v0 v1) (joinK (some f15l2) K) =
  laws_szTermS.Z8 N v0 v1 (fun v0 v1 v5 => K .nrm (f15s2 v0 v1 v5)) := by kernel_rfl
theorem f15t11 N v0 v1 v5 (K : KT ρ) : f15i N (f15c 151) .n (f15s2 v0 v1 v5) (joinK (some f15l2) K) =
  laws_szTermS.Z11 N v0 v1 v5 (fun v0 v1 v5 => K .nrm (f15s2 v0 v1 v5)) (fun v1 => K (.exit 0) (f15s3 v1)) (fun v4 => K .ret (f15s4 v4)) := by kernel_rfl
noncomputable def f15p10 : Plan := .mk none (some f15l2) .n .n
noncomputable abbrev f15w10 {ρ : Type} (N M : Nat) (σ : St) (K : KT ρ) : Option ρ := loopC (fun σ K => f15i N (f15c 151) .n σ K) f15l2 M σ K
theorem f15t10L {ρ : Type} (N : Nat) (K : KT ρ) : ∀ (M : Nat) (v0 : List (LI × Int)) (v1 v5 : Int), f15w10 N M (f15s2 v0 v1 v5) K =
  laws_szTermS.Z10L N (fun v1 => K (.exit 0) (f15s3 v1)) (fun v4 => K .ret (f15s4 v4)) M v0 v1 v5
  | 0, _, _, _ => rfl
  | M + 1, v0, v1, v5 => viaRoundS (fun k => laws_szTermS.Z11 N v0 v1 v5 k (fun v1 => K (.exit 0) (f15s3 v1)) (fun v4 => K .ret (f15s4 v4))) (f15t11 N (K := seqK (fun σ => f15w10 N M σ K) K) ..) (fx3 fun v0 v1 v5 => f15t10L N K M v0 v1 v5) (by kernel_rfl)
theorem f15t10 N v0 v1 v5 (K : KT ρ) : f15i N (f15c 87) f15p10 (f15s2 v0 v1 v5) (joinK (some f15l3) K) =
  laws_szTermS.Z10 N v0 v1 v5 (fun v1 => K (.exit 0) (f15s3 v1)) (fun v4 => K .ret (f15s4 v4)) :=
 viaLoopS (by kernel_rfl) (f15t10L N (joinK (some f15l3) K) N v0 v1 v5) (by kernel_rfl)
noncomputable def f15p9 : Plan := .mk (some f15l3) none f15p10 .n
theorem f15t9 N v0 v1 v5 (K : KT ρ) : f15i N (f15c 55) f15p9 (f15s2 v0 v1 v5) (joinK (some f15l3) K) =
  laws_szTermS.Z9 N v0 v1 v5 (fun v1 => K .nrm (f15s3 v1)) (fun v4 => K .ret (f15s4 v4)) :=
 viaBlockS (by kernel_rfl) (f15t10 N (K := blockK 0 (joinK (some f15l3) K)) ..) (by kernel_rfl)
noncomputable def f15p7 : Plan := .mk (some f15l2) none .n f15p9
theorem f15t7 N v0 v1 (K : KT ρ) : f15i N (f15c 23) f15p7 (f15s1 v0 v1) (joinK (some f15l3) K) =
  laws_szTermS.Z7 N v0 v1 (fun v1 => K .nrm (f15s3 v1)) (fun v4 => K .ret (f15s4 v4)) :=
 viaSeqS (fun k => laws_szTermS.Z8 N v0 v1 k) (by kernel_rfl) (f15t8 N (K := seqK (fun σ => f15i N (f15c 55) f15p9 σ (joinK (some f15l3) K)) (joinK (some f15l3) K)) ..) (fx3 fun v0 v1 v5 => f15t9 N v0 v1 v5 K) (by kernel_rfl)
theorem f15t12 N v1 (K : KT ρ) : f15i N (f15c 31) .n (f15s3 v1) (joinK (some f15lE) K) =
  laws_szTermS.Z12 N v1 (fun v4 => K .ret (f15s4 v4)) := by kernel_rfl
noncomputable def f15p6 : Plan := .mk (some f15l3) none f15p7 .n
theorem f15t6 N v0 v1 (K : KT ρ) : f15i N (f15c 15) f15p6 (f15s1 v0 v1) (joinK (some f15lE) K) =
  laws_szTermS.Z6 N v0 v1 (fun v4 => K .ret (f15s4 v4)) :=
 viaSeqS (fun k => laws_szTermS.Z7 N v0 v1 k (fun v4 => K .ret (f15s4 v4))) (by kernel_rfl) (f15t7 N (K := seqK (fun σ => f15i N (f15c 31) .n σ (joinK (some f15lE) K)) (joinK (some f15lE) K)) ..) (funext fun v1 => f15t12 N v1 K) (by kernel_rfl)
noncomputable def f15p4 : Plan := .mk (some f15l1) none .n f15p6
theorem f15t4 N v0 v1 (K : KT ρ) : f15i N (f15c 7) f15p4 (f15s1 v0 v1) (joinK (some f15lE) K) =
  laws_szTermS.Z4 N v0 v1 (fun v4 => K .ret (f15s4 v4)) :=
 viaSeqS (fun k => laws_szTermS.Z5 N v0 v1 k (fun v4 => K .ret (f15s4 v4))) (by kernel_rfl) (f15t5 N (K := seqK (fun σ => f15i N (f15c 15) f15p6 σ (joinK (some f15lE) K)) (joinK (some f15lE) K)) ..) (fx2 fun v0 v1 => f15t6 N v0 v1 K) (by kernel_rfl)
noncomputable def f15p2 : Plan := .mk (some f15l1) none .n f15p4
theorem f15t2 N v0 v1 (K : KT ρ) : f15i N (f15c 3) f15p2 (f15s1 v0 v1) (joinK (some f15lE) K) =
  laws_szTermS.Z2 N v0 v1 (fun v4 => K .ret (f15s4 v4)) :=
 viaSeqS (fun k => laws_szTermS.Z3 N v0 v1 k) (by kernel_rfl) (f15t3 N (K := seqK (fun σ => f15i N (f15c 7) f15p4 σ (joinK (some f15lE) K)) (joinK (some f15lE) K)) ..) (fx2 fun v0 v1 => f15t4 N v0 v1 K) (by kernel_rfl)
noncomputable def f15p0 : Plan := .mk (some f15l1) none .n f15p2
theorem f15t0 N v0 v1 (K : KT ρ) : f15i N (f15c 1) f15p0 (f15s0 v0 v1) (joinK (some f15lE) K) =
  laws_szTermS.Z0 N v0 v1 (fun v4 => K .ret (f15s4 v4)) :=
 viaSeqS (fun k => laws_szTermS.Z1 N v0 v1 k) (by kernel_rfl) (f15t1 N (K := seqK (fun σ => f15i N (f15c 3) f15p2 σ (joinK (some f15lE) K)) (joinK (some f15lE) K)) ..) (fx2 fun v0 v1 => f15t2 N v0 v1 K) (by kernel_rfl)
theorem f15m (N : Nat) (v0 : List (LI × Int)) (v1 : Int) : f15i N (f15c 1) f15p0 (f15s0 v0 v1) (joinK (some f15lE) (finK tab f15sig Tryd.f15.results.toList)) = laws_szTermS.Z0 N v0 v1 (fun v4 => some ((), (v4, ()))) :=
  (f15t0 N v0 v1 (finK tab f15sig Tryd.f15.results.toList)).trans (by kernel_rfl)
theorem f15ok (h : laws_szTermS.Spec) : EntryOk Tryd.prog 15 e15 :=
  entry_of_code (sig := f15sig) (c := (f15c 1)) (pl := f15p0) (je := (some f15lE)) (B := f15B) Tryd.func15 (by kernel_rfl) (by kernel_rfl) (by kernel_rfl) tabOk f15GOk (by kernel_rfl) (by kernel_rfl) (by kernel_rfl) (by kernel_rfl) fun X hb hp => by
    obtain ⟨v0, v1, _⟩ := X
    obtain ⟨N, h⟩ := h v0 v1 hb.1
    exact ⟨N, (f15m N v0 v1).trans (h N (Nat.le_refl N))⟩
theorem e15ok : EntryOk Tryd.prog 15 e15 := f15ok laws_szTermS.ok
end Go.Fw
namespace Go.Fw
variable {ρ : Type}
open Go.Proofs
noncomputable def f5sig : Sig := ⟨[⟨.pair (.int .i64) (.sl 59 (.pair (.sl 3 (.int .i64)) (.int .i64))), true, false⟩, ⟨.int .i64, false, false⟩], [⟨.int .i64, false, false⟩]⟩
noncomputable def e5 : Entry := ⟨f5sig, none, fun X => ((), ((laws_szLaurent.g X.1 X.2.1), ()))⟩
noncomputable def f5G : Gm := addG emptyG 15 e15
theorem f5GOk : GOk Tryd.prog f5G := (GOk.nil).add e15ok (by kernel_rfl)
noncomputable def f5lE : Clean := ⟨[], [], [], [], []⟩
noncomputable def f5s0 (v0 : Int × List (LI × Int)) (v1 : Int) : St := initSt f5sig.ps (v0, (v1, ()))
noncomputable def f5s1 (v4 : Int) : St := stOf [(4, xi v4)] [] []
noncomputable def f5l1 : Clean := ⟨[4], [], [], [], []⟩
noncomputable def f5B : Nat → Option Clean := lookL [(1000000, f5l1)]
noncomputable abbrev f5i {ρ : Type} (N : Nat) (c : Code) (p : Plan) (σ : St) (K : KT ρ) : Option ρ := iCode f5G tab f5B N c p σ K
noncomputable def f5c (n : Nat) : Code := codeN 99 (bodyOf Tryd.f5) n
theorem f5t0 N v0 v1 (K : KT ρ) : f5i N (f5c 1) .n (f5s0 v0 v1) (joinK (some f5lE) K) =
  laws_szLaurent.Z0 N v0 v1 (fun v4 => K .ret (f5s1 v4)) := by kernel_rfl
theorem f5m (N : Nat) (v0 : Int × List (LI × Int)) (v1 : Int) : f5i N (f5c 1) .n (f5s0 v0 v1) (joinK (some f5lE) (finK tab f5sig Tryd.f5.results.toList)) = laws_szLaurent.Z0 N v0 v1 (fun v4 => some ((), (v4, ()))) :=
  (f5t0 N v0 v1 (finK tab f5sig Tryd.f5.results.toList)).trans (by kernel_rfl)
theorem f5ok (h : laws_szLaurent.Spec) : EntryOk Tryd.prog 5 e5 :=
  entry_of_code (sig := f5sig) (c := (f5c 1)) (pl := .n) (je := (some f5lE)) (B := f5B) Tryd.func5 (by kernel_rfl) (by kernel_rfl) (by kernel_rfl) tabOk f5GOk (by kernel_rfl) (by kernel_rfl) (by kernel_rfl) (by kernel_rfl) fun X hb hp => by
    obtain ⟨v0, v1, _⟩ := X
    obtain ⟨N, h⟩ := h v0 v1 hb.1
    exact ⟨N, (f5m N v0 v1).trans (h N (Nat.le_refl N))⟩
theorem e5ok : EntryOk Tryd.prog 5 e5 := f5ok laws_szLaurent.ok
end Go.Fw
namespace Go.Fw
variable {ρ : Type}
open Go.Proofs
noncomputable def f27sig : Sig := ⟨[⟨.sl 3 (.int .i64), false, false⟩], [⟨.sl 3 (.int .i64), false, false⟩]⟩
noncomputable def e27 : Entry := ⟨f27sig, (some fun X => laws_toIntS.P X.1), fun X => ((), ((laws_toIntS.g X.1), ()))⟩
noncomputable def f27G : Gm := emptyG
theorem f27GOk : GOk Tryd.prog f27G := GOk.nil
noncomputable def f27lE : Clean := ⟨[], [], [], [], []⟩
noncomputable def f27s0 (v0 : LI) : St := initSt f27sig.ps (v0, ())
noncomputable def f27s1 (v0 : LI) : St := stOf [(0, .c (.sn 3 tI v0 none))] [] []
noncomputable def f27l1 : Clean := ⟨[0], [], [], [], []⟩
noncomputable def f27s2 (v3 v0 : LI) : St := stOf [(0, .c (.sn 3 tI v0 none)), (3, xo 1000192)] [] [(1000192, (⟨3, .int .i64, v3, true, false⟩ : Row))]
noncomputable def f27l2 : Clean := ⟨[0, 3], [], [], [], [(⟨false, 3, 0⟩, 1000192)]⟩
noncomputable def f27s3 (v3 v0 : LI) (v4 : Int) : St := stOf [(0, .c (.sn 3 tI v0 none)), (3, xo 1000192), (4, xi v4)] [] [(1000192, (⟨3, .int .i64, v3, true, false⟩ : Row))]
noncomputable def f27l3 : Clean := ⟨[0, 3, 4], [], [], [], [(⟨false, 3, 0⟩, 1000192)]⟩
noncomputable def f27s4 (v3 : LI) : St := stOf [(3, xo 1000192)] [] [(1000192, (⟨3, .int .i64, v3, true, false⟩ : Row))]
noncomputable def f27l4 : Clean := ⟨[3], [], [], [], [(⟨false, 3, 0⟩, 1000192)]⟩
noncomputable def f27s5 (v2 : LI) : St := stOf [(2, xo 1000128)] [] [(1000128, (⟨3, .int .i64, v2, true, false⟩ : Row))]
noncomputable def f27l5 : Clean := ⟨[2], [], [], [], [(⟨false, 2, 0⟩, 1000128)]⟩
noncomputable def f27B : Nat → Option Clean := lookL [(0, f27l4), (1000000, f27l5)]
noncomputable abbrev f27i {ρ : Type} (N : Nat) (c : Code) (p : Plan) (σ : St) (K : KT ρ) : Option ρ := iCode f27G tab f27B N c p σ K
noncomputable def f27c (n : Nat) : Code := codeN 99 (bodyOf Tryd.f27) n
theorem f27t1 N v0 (K : KT ρ) : f27i N (f27c 2) .n (f27s0 v0) (joinK (some f27l1) K) =
  laws_toIntS.Z1 N v0 (fun v0 => K .nrm (f27s1 v0)) := by kernel_rfl
theorem f27t3 N v0 (K : KT ρ) : f27i N (f27c 5) .n (f27s1 v0) (joinK (some f27l2) K) =
  laws_toIntS.Z3 N v0 (fun v3 v0 => K .nrm (f27s2 v3 v0)) := by kernel_rfl
theorem f27t6 N v3 v0 (K : KT ρ) : f27i N (f27c 19) .n (f27s2 v3 v0) (joinK (some f27l3) K) =
  laws_toIntS.Z6 N v3 v0 (fun v3 v0 v4 => K .nrm (f27s3 v3 v0 v4)) := by kernel_rfl
theorem f27t9 N v3 v0 v4 (K : KT ρ) : f27i N (f27c 75) .n (f27s3 v3 v0 v4) (joinK (some f27l3) K) =
  laws_toIntS.Z9 N v3 v0 v4 (fun v3 v0 v4 => K .nrm (f27s3 v3 v0 v4)) (fun v3 => K (.exit 0) (f27s4 v3)) := by kernel_rfl
noncomputable def f27p8 : Plan := .mk none (some f27l3) .n .n
noncomputable abbrev f27w8 {ρ : Type} (N M : Nat) (σ : St) (K : KT ρ) : Option ρ := loopC (fun σ K => f27i N (f27c 75) .n σ K) f27l3 M σ K
theorem f27t8L {ρ : Type} (N : Nat) (K : KT ρ) : ∀ (M : Nat) (v3 v0 : LI) (v4 : Int), f27w8 N M (f27s3 v3 v0 v4) K =
  laws_toIntS.Z8L N (fun v3 => K (.exit 0) (f27s4 v3)) M v3 v0 v4
  | 0, _, _, _ => rfl
  | M + 1, v3, v0, v4 => viaRoundS (fun k => laws_toIntS.Z9 N v3 v0 v4 k (fun v3 => K (.exit 0) (f27s4 v3))) (f27t9 N (K := seqK (fun σ => f27w8 N M σ K) K) ..) (fx3 fun v3 v0 v4 => f27t8L N K M v3 v0 v4) (by kernel_rfl)
theorem f27t8 N v3 v0 v4 (K : KT ρ) : f27i N (f27c 43) f27p8 (f27s3 v3 v0 v4) (joinK (some f27l4) K) =
  laws_toIntS.Z8 N v3 v0 v4 (fun v3 => K (.exit 0) (f27s4 v3)) :=
 viaLoopS (by kernel_rfl) (f27t8L N (joinK (some f27l4) K) N v3 v0 v4) (by kernel_rfl)
noncomputable def f27p7 : Plan := .mk (some f27l4) none f27p8 .n
theorem f27t7 N v3 v0 v4 (K : KT ρ) : f27i N (f27c 27) f27p7 (f27s3 v3 v0 v4) (joinK (some f27l4) K) =
  laws_toIntS.Z7 N v3 v0 v4 (fun v3 => K .nrm (f27s4 v3)) :=
 viaBlockS (by kernel_rfl) (f27t8 N (K := blockK 0 (joinK (some f27l4) K)) ..) (by kernel_rfl)
noncomputable def f27p5 : Plan := .mk (some f27l3) none .n f27p7
theorem f27t5 N v3 v0 (K : KT ρ) : f27i N (f27c 11) f27p5 (f27s2 v3 v0) (joinK (some f27l4) K) =
  laws_toIntS.Z5 N v3 v0 (fun v3 => K .nrm (f27s4 v3)) :=
 viaSeqS (fun k => laws_toIntS.Z6 N v3 v0 k) (by kernel_rfl) (f27t6 N (K := seqK (fun σ => f27i N (f27c 27) f27p7 σ (joinK (some f27l4) K)) (joinK (some f27l4) K)) ..) (fx3 fun v3 v0 v4 => f27t7 N v3 v0 v4 K) (by kernel_rfl)
theorem f27t10 N v3 (K : KT ρ) : f27i N (f27c 15) .n (f27s4 v3) (joinK (some f27lE) K) =
  laws_toIntS.Z10 N v3 (fun v2 => K .ret (f27s5 v2)) := by kernel_rfl
noncomputable def f27p4 : Plan := .mk (some f27l4) none f27p5 .n
theorem f27t4 N v3 v0 (K : KT ρ) : f27i N (f27c 7) f27p4 (f27s2 v3 v0) (joinK (some f27lE) K) =
  laws_toIntS.Z4 N v3 v0 (fun v2 => K .ret (f27s5 v2)) :=
 viaSeqS (fun k => laws_toIntS.Z5 N v3 v0 k) (by kernel_rfl) (f27t5 N (K := seqK (fun σ => f27i N (f27c 15) .n σ (joinK (some f27lE) K)) (joinK (some f27lE) K)) ..) (funext fun v3 => f27t10 N v3 K) (by kernel_rfl)
noncomputable def f27p2 : Plan := .mk (some f27l2) none .n f27p4
theorem f27t2 N v0 (K : KT ρ) : f27i N (f27c 3) f27p2 (f27s1 v0) (joinK (some f27lE) K) =
  laws_toIntS.Z2 N v0 (fun v2 => K .ret (f27s5 v2)) :=
 viaSeqS (fun k => laws_toIntS.Z3 N v0 k) (by kernel_rfl) (f27t3 N (K := seqK (fun σ => f27i N (f27c 7) f27p4 σ (joinK (some f27lE) K)) (joinK (some f27lE) K)) ..) (fx2 fun v3 v0 => f27t4 N v3 v0 K) (by kernel_rfl)
noncomputable def f27p0 : Plan := .mk (some f27l1) none .n f27p2
theorem f27t0 N v0 (K : KT ρ) : f27i N (f27c 1) f27p0 (f27s0 v0) (joinK (some f27lE) K) =
  laws_toIntS.Z0 N v0 (fun v2 => K .ret (f27s5 v2)) :=
 viaSeqS (fun k => laws_toIntS.Z1 N v0 k) (by kernel_rfl) (f27t1 N (K := seqK (fun σ => f27i N (f27c 3) f27p2 σ (joinK (some f27lE) K)) (joinK (some f27lE) K)) ..) (funext fun v0 => f27t2 N v0 K) (by kernel_rfl)
theorem f27m (N : Nat) (v0 : LI) : f27i N (f27c 1) f27p0 (f27s0 v0) (joinK (some f27lE) (finK tab f27sig Tryd.f27.results.toList)) = laws_toIntS.Z0 N v0 (fun v2 => some ((), (v2, ()))) :=
  (f27t0 N v0 (finK tab f27sig Tryd.f27.results.toList)).trans (by kernel_rfl)
theorem f27ok (h : laws_toIntS.Spec) : EntryOk Tryd.prog 27 e27 :=
  entry_of_code (sig := f27sig) (c := (f27c 1)) (pl := f27p0) (je := (some f27lE)) (B := f27B) Tryd.func27 (by kernel_rfl) (by kernel_rfl) (by kernel_rfl) tabOk f27GOk (by kernel_rfl) (by kernel_rfl) (by kernel_rfl) (by kernel_rfl) fun X hb hp => by
    obtain ⟨v0, _⟩ := X
    obtain ⟨N, h⟩ := h v0 hb.1 hp
    exact ⟨N, (f27m N v0).trans (h N (Nat.le_refl N))⟩
theorem e27ok : EntryOk Tryd.prog 27 e27 := f27ok laws_toIntS.ok
end Go.Fw
namespace Go.Fw
variable {ρ : Type}
open Go.Proofs
noncomputable def f34sig : Sig := ⟨[⟨.pair (.sl 3 (.int .i64)) (.int .i64), true, false⟩], [⟨.pair (.sl 3 (.int .i64)) (.int .i64), true, false⟩]⟩
noncomputable def e34 : Entry := ⟨f34sig, (some fun X => laws_toTerm.P X.1), fun X => ((), ((laws_toTerm.g X.1), ()))⟩
noncomputable def f34G : Gm := addG emptyG 27 e27
theorem f34GOk : GOk Tryd.prog f34G := (GOk.nil).add e27ok (by kernel_rfl)
noncomputable def f34lE : Clean := ⟨[], [], [], [], []⟩
noncomputable def f34s0 (v0 : LI × Int) : St := initSt f34sig.ps (v0, ())
noncomputable def f34s1 (v2_0 : LI) (v2_1 : Int) : St := stOf [(2, xb 2)] [(2, (46, [.own 20000128, yi v2_1]))] [(20000128, (⟨3, .int .i64, v2_0, true, false⟩ : Row))]
noncomputable def f34l1 : Clean := ⟨[2], [2], [], [], [(⟨true, 2, 0⟩, 20000128)]⟩
noncomputable def f34B : Nat → Option Clean := lookL [(1000000, f34l1)]
noncomputable abbrev f34i {ρ : Type} (N : Nat) (c : Code) (p : Plan) (σ : St) (K : KT ρ) : Option ρ := iCode f34G tab f34B N c p σ K
noncomputable def f34c (n : Nat) : Code := codeN 99 (bodyOf Tryd.f34) n
theorem f34t0 N v0 (K : KT ρ) : f34i N (f34c 1) .n (f34s0 v0) (joinK (some f34lE) K) =
  laws_toTerm.Z0 N v0 (fun v2_0 v2_1 => K .ret (f34s1 v2_0 v2_1)) := by kernel_rfl
theorem f34m (N : Nat) (v0 : LI × Int) : f34i N (f34c 1) .n (f34s0 v0) (joinK (some f34lE) (finK tab f34sig Tryd.f34.results.toList)) = laws_toTerm.Z0 N v0 (fun v2_0 v2_1 => some ((), ((v2_0, v2_1), ()))) :=
  (f34t0 N v0 (finK tab f34sig Tryd.f34.results.toList)).trans (by kernel_rfl)
theorem f34ok (h : laws_toTerm.Spec) : EntryOk Tryd.prog 34 e34 :=
  entry_of_code (sig := f34sig) (c := (f34c 1)) (pl := .n) (je := (some f34lE)) (B := f34B) Tryd.func34 (by kernel_rfl) (by kernel_rfl) (by kernel_rfl) tabOk f34GOk (by kernel_rfl) (by kernel_rfl) (by kernel_rfl) (by kernel_rfl) fun X hb hp => by
    obtain ⟨v0, _⟩ := X
    obtain ⟨N, h⟩ := h v0 hb.1 hp
    exact ⟨N, (f34m N v0).trans (h N (Nat.le_refl N))⟩
theorem e34ok : EntryOk Tryd.prog 34 e34 := f34ok laws_toTerm.ok
end Go.Fw
namespace Go.Fw
variable {ρ : Type}
open Go.Proofs
noncomputable def f19sig : Sig := ⟨[⟨.sl 59 (.pair (.sl 3 (.int .i64)) (.int .i64)), false, false⟩], [⟨.sl 46 (.pair (.sl 3 (.int .i64)) (.int .i64)), false, false⟩]⟩
noncomputable def e19 : Entry := ⟨f19sig, (some fun X => laws_toTermS.P X.1), fun X => ((), ((laws_toTermS.g X.1), ()))⟩
noncomputable def f19G : Gm := addG emptyG 34 e34
theorem f19GOk : GOk Tryd.prog f19G := (GOk.nil).add e34ok (by kernel_rfl)
noncomputable def f19lE : Clean := ⟨[], [], [], [], []⟩
noncomputable def f19s0 (v0 : List (LI × Int)) : St := initSt f19sig.ps (v0, ())
noncomputable def f19s1 (v0 : List (LI × Int)) : St := stOf [(0, .c (.sn 59 (.pair (.sl 3 tI) tI) v0 none))] [] []
noncomputable def f19l1 : Clean := ⟨[0], [], [], [], []⟩
noncomputable def f19s2 (v3 v0 : List (LI × Int)) : St := stOf [(0, .c (.sn 59 (.pair (.sl 3 tI) tI) v0 none)), (3, xo 1000192)] [] [(1000192, (⟨46, .pair (.sl 3 tI) tI, v3, true, false⟩ : Row))]
noncomputable def f19l2 : Clean := ⟨[0, 3], [], [], [], [(⟨false, 3, 0⟩, 1000192)]⟩
noncomputable def f19s3 (v3 v0 : List (LI × Int)) (v4 : Int) : St := stOf [(0, .c (.sn 59 (.pair (.sl 3 tI) tI) v0 none)), (3, xo 1000192), (4, xi v4)] [] [(1000192, (⟨46, .pair (.sl 3 tI) tI, v3, true, false⟩ : Row))]
noncomputable def f19l3 : Clean := ⟨[0, 3, 4], [], [], [], [(⟨false, 3, 0⟩, 1000192)]⟩
noncomputable def f19s4 (v3 : List (LI × Int)) : St := stOf [(3, xo 1000192)] [] [(1000192, (⟨46, .pair (.sl 3 tI) tI, v3, true, false⟩ : Row))]
noncomputable def f19l4 : Clean := ⟨[3], [], [], [], [(⟨false, 3, 0⟩, 1000192)]⟩
noncomputable def f19s5 (v2 : List (LI × Int)) : St := stOf [(2, xo 1000128)] [] [(1000128, (⟨46, .pair (.sl 3 tI) tI, v2, true, false⟩ : Row))]
noncomputable def f19l5 : Clean := ⟨[2], [], [], [], [(⟨false, 2, 0⟩, 1000128)]⟩
noncomputable def f19B : Nat → Option Clean := lookL [(0, f19l4), (1000000, f19l5)]
noncomputable abbrev f19i {ρ : Type} (N : Nat) (c : Code) (p : Plan) (σ : St) (K : KT ρ) : Option ρ := iCode f19G tab f19B N c p σ K
noncomputable def f19c (n : Nat) : Code := codeN 99 (bodyOf Tryd.f19) n
theorem f19t1 N v0 (K : KT ρ) : f19i N (f19c 2) .n (f19s0 v0) (joinK (some f19l1) K) =
  laws_toTermS.Z1 N v0 (fun v0 => K .nrm (f19s1 v0)) := by kernel_rfl
theorem f19t3 N v0 (K : KT ρ) : f19i N (f19c 5) .n (f19s1 v0) (joinK (some f19l2) K) =
  laws_toTermS.Z3 N v0 (fun v3 v0 => K .nrm (f19s2 v3 v0)) := by kernel_rfl
theorem f19t6 N v3 v0 (K : KT ρ) : f19i N (f19c 19) .n (f19s2 v3 v0) (joinK (some f19l3) K) =
  laws_toTermS.Z6 N v3 v0 (fun v3 v0 v4 => K .nrm (f19s3 v3 v0 v4)) := by kernel_rfl
theorem f19t9 N v3 v0 v4 (K : KT ρ) : f19i N (f19c 75) .n (f19s3 v3 v0 v4) (joinK (some f19l3) K) =
  laws_toTermS.Z9 N v3 v0 v4 (fun v3 v0 v4 => K .nrm (f19s3 v3 v0 v4)) (fun v3 => K (.exit 0) (f19s4 v3)) := by kernel_rfl
noncomputable def f19p8 : Plan := .mk none (some f19l3) .n .n
noncomputable abbrev f19w8 {ρ : Type} (N M : Nat) (σ : St) (K : KT ρ) : Option ρ := loopC (fun σ K => f19i N (f19c 75) .n σ K) f19l3 M σ K
theorem f19t8L {ρ : Type} (N : Nat) (K : KT ρ) : ∀ (M : Nat) (v3 v0 : List (LI × Int)) (v4 : Int), f19w8 N M (f19s3 v3 v0 v4) K =
  laws_toTermS.Z8L N (fun v3 => K (.exit 0) (f19s4 v3)) M v3 v0 v4
  | 0, _, _, _ => rfl
  | M + 1, v3, v0, v4 => viaRoundS (fun k => laws_toTermS.Z9 N v3 v0 v4 k (fun v3 => K (.exit 0) (f19s4 v3))) (f19t9 N (K := seqK (fun σ => f19w8 N M σ K) K) ..) (fx3 fun v3 v0 v4 => f19t8L N K M v3 v0 v4) (by kernel_rfl)
theorem f19t8 N v3 v0 v4 (K : KT ρ) : f19i N (f19c 43) f19p8 (f19s3 v3 v0 v4) (joinK (some f19l4) K) =
  laws_toTermS.Z8 N v3 v0 v4 (fun v3 => K (.exit 0) (f19s4 v3)) :=
 viaLoopS (by kernel_rfl) (f19t8L N (joinK (some f19l4) K) N v3 v0 v4) (by kernel_rfl)
noncomputable def f19p7 : Plan := .mk (some f19l4) none f19p8 .n
theorem f19t7 N v3 v0 v4 (K : KT ρ) : f19i N (f19c 27) f19p7 (f19s3 v3 v0 v4) (joinK (some f19l4) K) =
  laws_toTermS.Z7 N v3 v0 v4 (fun v3 => K .nrm (f19s4 v3)) :=
 viaBlockS (by kernel_rfl) (f19t8 N (K := blockK 0 (joinK (some f19l4) K)) ..) (by kernel_rfl)
noncomputable def f19p5 : Plan := .mk (some f19l3) none .n f19p7
theorem f19t5 N v3 v0 (K : KT ρ) : f19i N (f19c 11) f19p5 (f19s2 v3 v0) (joinK (some f19l4) K) =
  laws_toTermS.Z5 N v3 v0 (fun v3 => K .nrm (f19s4 v3)) :=
 viaSeqS (fun k => laws_toTermS.Z6 N v3 v0 k) (by kernel_rfl) (f19t6 N (K := seqK (fun σ => f19i N (f19c 27) f19p7 σ (joinK (some f19l4) K)) (joinK (some f19l4) K)) ..) (fx3 fun v3 v0 v4 => f19t7 N v3 v0 v4 K) (by kernel_rfl)
theorem f19t10 N v3 (K : KT ρ) : f19i N (f19c 15) .n (f19s4 v3) (joinK (some f19lE) K) =
  laws_toTermS.Z10 N v3 (fun v2 => K .ret (f19s5 v2)) := by kernel_rfl
noncomputable def f19p4 : Plan := .mk (some f19l4) none f19p5 .n
theorem f19t4 N v3 v0 (K : KT ρ) : f19i N (f19c 7) f19p4 (f19s2 v3 v0) (joinK (some f19lE) K) =
  laws_toTermS.Z4 N v3 v0 (fun v2 => K .ret (f19s5 v2)) :=
 viaSeqS (fun k => laws_toTermS.Z5 N v3 v0 k) (by kernel_rfl) (f19t5 N (K := seqK (fun σ => f19i N (f19c 15) .n σ (joinK (some f19lE) K)) (joinK (some f19lE) K)) ..) (funext fun v3 => f19t10 N v3 K) (by kernel_rfl)
noncomputable def f19p2 : Plan := .mk (some f19l2) none .n f19p4
theorem f19t2 N v0 (K : KT ρ) : f19i N (f19c 3) f19p2 (f19s1 v0) (joinK (some f19lE) K) =
  laws_toTermS.Z2 N v0 (fun v2 => K .ret (f19s5 v2)) :=
 viaSeqS (fun k => laws_toTermS.Z3 N v0 k) (by kernel_rfl) (f19t3 N (K := seqK (fun σ => f19i N (f19c 7) f19p4 σ (joinK (some f19lE) K)) (joinK (some f19lE) K)) ..) (fx2 fun v3 v0 => f19t4 N v3 v0 K) (by kernel_rfl)
noncomputable def f19p0 : Plan := .mk (some f19l1) none .n f19p2
theorem f19t0 N v0 (K : KT ρ) : f19i N (f19c 1) f19p0 (f19s0 v0) (joinK (some f19lE) K) =
  laws_toTermS.Z0 N v0 (fun v2 => K .ret (f19s5 v2)) :=
 viaSeqS (fun k => laws_toTermS.Z1 N v0 k) (by kernel_rfl) (f19t1 N (K := seqK (fun σ => f19i N (f19c 3) f19p2 σ (joinK (some f19lE) K)) (joinK (some f19lE) K)) ..) (funext fun v0 => f19t2 N v0 K) (by kernel_rfl)
theorem f19m (N : Nat) (v0 : List (LI × Int)) : f19i N (f19c 1) f19p0 (f19s0 v0) (joinK (some f19lE) (finK tab f19sig Tryd.f19.results.toList)) = laws_toTermS.Z0 N v0 (fun v2 => some ((), (v2, ()))) :=
  (f19t0 N v0 (finK tab f19sig Tryd.f19.results.toList)).trans (by kernel_rfl)
theorem f19ok (h : laws_toTermS.Spec) : EntryOk Tryd.prog 19 e19 :=
  entry_of_code (sig := f19sig) (c := (f19c 1)) (pl := f19p0) (je := (some f19lE)) (B := f19B) Tryd.func19 (by kernel_rfl) (by kernel_rfl) (by kernel_rfl) tabOk f19GOk (by kernel_rfl) (by kernel_rfl) (by kernel_rfl) (by kernel_rfl) fun X hb hp => by
    obtain ⟨v0, _⟩ := X
    obtain ⟨N, h⟩ := h v0 hb.1 hp
    exact ⟨N, (f19m N v0).trans (h N (Nat.le_refl N))⟩
theorem e19ok : EntryOk Tryd.prog 19 e19 := f19ok laws_toTermS.ok
end Go.Fw
namespace Go.Fw
variable {ρ : Type}
open Go.Proofs
noncomputable def f7sig : Sig := ⟨[⟨.pair (.int .i64) (.sl 59 (.pair (.sl 3 (.int .i64)) (.int .i64))), true, false⟩], [⟨.pair (.int .i64) (.sl 46 (.pair (.sl 3 (.int .i64)) (.int .i64))), true, false⟩]⟩
noncomputable def e7 : Entry := ⟨f7sig, (some fun X => laws_toLaurent.P X.1), fun X => ((), ((laws_toLaurent.g X.1), ()))⟩
noncomputable def f7G : Gm := addG emptyG 19 e19
theorem f7GOk : GOk Tryd.prog f7G := (GOk.nil).add e19ok (by kernel_rfl)
noncomputable def f7lE : Clean := ⟨[], [], [], [], []⟩
noncomputable def f7s0 (v0 : Int × List (LI × Int)) : St := initSt f7sig.ps (v0, ())
noncomputable def f7s1 (v2_1 : List (LI × Int)) (v2_0 : Int) : St := stOf [(2, xb 2)] [(2, (29, [yi v2_0, .own 20000129]))] [(20000129, (⟨46, .pair (.sl 3 tI) tI, v2_1, true, false⟩ : Row))]
noncomputable def f7l1 : Clean := ⟨[2], [2], [], [], [(⟨true, 2, 1⟩, 20000129)]⟩
noncomputable def f7B : Nat → Option Clean := lookL [(1000000, f7l1)]
noncomputable abbrev f7i {ρ : Type} (N : Nat) (c : Code) (p : Plan) (σ : St) (K : KT ρ) : Option ρ := iCode f7G tab f7B N c p σ K
noncomputable def f7c (n : Nat) : Code := codeN 99 (bodyOf Tryd.f7) n
theorem f7t0 N v0 (K : KT ρ) : f7i N (f7c 1) .n (f7s0 v0) (joinK (some f7lE) K) =
  laws_toLaurent.Z0 N v0 (fun v2_1 v2_0 => K .ret (f7s1 v2_1 v2_0)) := by kernel_rfl
theorem f7m (N : Nat) (v0 : Int × List (LI × Int)) : f7i N (f7c 1) .n (f7s0 v0) (joinK (some f7lE) (finK tab f7sig Tryd.f7.results.toList)) = laws_toLaurent.Z0 N v0 (fun v2_1 v2_0 => some ((), ((v2_0, v2_1), ()))) :=
  (f7t0 N v0 (finK tab f7sig Tryd.f7.results.toList)).trans (by kernel_rfl)
theorem f7ok (h : laws_toLaurent.Spec) : EntryOk Tryd.prog 7 e7 :=
  entry_of_code (sig := f7sig) (c := (f7c 1)) (pl := .n) (je := (some f7lE)) (B := f7B) Tryd.func7 (by kernel_rfl) (by kernel_rfl) (by kernel_rfl) tabOk f7GOk (by kernel_rfl) (by kernel_rfl) (by kernel_rfl) (by kernel_rfl) fun X hb hp => by
    obtain ⟨v0, _⟩ := X
    obtain ⟨N, h⟩ := h v0 hb.1 hp
    exact ⟨N, (f7m N v0).trans (h N (Nat.le_refl N))⟩
theorem e7ok : EntryOk Tryd.prog 7 e7 := f7ok laws_toLaurent.ok
end Go.Fw
namespace Go.Fw
variable {ρ : Type}
open Go.Proofs
noncomputable def f32sig : Sig := ⟨[⟨.int .i64, false, false⟩, ⟨.int .i64, false, false⟩, ⟨.int .i64, false, false⟩], [⟨.bool, false, false⟩]⟩
noncomputable def e32 : Entry := ⟨f32sig, none, fun X => ((), ((spec_l1In.g X.1 X.2.1 X.2.2.1), ()))⟩
noncomputable def f32G : Gm := emptyG
theorem f32GOk : GOk Tryd.prog f32G := GOk.nil
noncomputable def f32lE : Clean := ⟨[], [], [], [], []⟩
noncomputable def f32s0 (v0 v1 v2 : Int) : St := initSt f32sig.ps (v0, (v1, (v2, ())))
noncomputable def f32s1 (v6 : Bool) : St := stOf [(6, xB v6)] [] []
noncomputable def f32l1 : Clean := ⟨[6], [], [], [], []⟩
noncomputable def f32B : Nat → Option Clean := lookL [(1000000, f32l1)]
noncomputable abbrev f32i {ρ : Type} (N : Nat) (c : Code) (p : Plan) (σ : St) (K : KT ρ) : Option ρ := iCode f32G tab f32B N c p σ K
noncomputable def f32c (n : Nat) : Code := codeN 99 (bodyOf Tryd.f32) n
theorem f32t0 N v0 v1 v2 (K : KT ρ) : f32i N (f32c 1) .n (f32s0 v0 v1 v2) (joinK (some f32lE) K) =
  spec_l1In.Z0 N v0 v1 v2 (fun v6 => K .ret (f32s1 v6)) := by kernel_rfl
theorem f32m (N : Nat) (v0 v1 v2 : Int) : f32i N (f32c 1) .n (f32s0 v0 v1 v2) (joinK (some f32lE) (finK tab f32sig Tryd.f32.results.toList)) = spec_l1In.Z0 N v0 v1 v2 (fun v6 => some ((), (v6, ()))) :=
  (f32t0 N v0 v1 v2 (finK tab f32sig Tryd.f32.results.toList)).trans (by kernel_rfl)
theorem f32ok (h : spec_l1In.Spec) : EntryOk Tryd.prog 32 e32 :=
  entry_of_code (sig := f32sig) (c := (f32c 1)) (pl := .n) (je := (some f32lE)) (B := f32B) Tryd.func32 (by kernel_rfl) (by kernel_rfl) (by kernel_rfl) tabOk f32GOk (by kernel_rfl) (by kernel_rfl) (by kernel_rfl) (by kernel_rfl) fun X hb hp => by
    obtain ⟨v0, v1, v2, _⟩ := X
    obtain ⟨N, h⟩ := h v0 v1 v2
    exact ⟨N, (f32m N v0 v1 v2).trans (h N (Nat.le_refl N))⟩
theorem e32ok : EntryOk Tryd.prog 32 e32 := f32ok spec_l1In.ok
end Go.Fw
namespace Go.Fw
variable {ρ : Type}
open Go.Proofs
noncomputable def f33sig : Sig := ⟨[⟨.sl 3 (.int .i64), false, false⟩, ⟨.sl 3 (.int .i64), false, false⟩], [⟨.bool, false, false⟩]⟩
noncomputable def e33 : Entry := ⟨f33sig, none, fun X => ((), ((spec_l1Less.g X.1 X.2.1), ()))⟩
noncomputable def f33G : Gm := emptyG
theorem f33GOk : GOk Tryd.prog f33G := GOk.nil
noncomputable def f33lE : Clean := ⟨[], [], [], [], []⟩
noncomputable def f33s0 (v0 v1 : LI) : St := initSt f33sig.ps (v0, (v1, ()))
noncomputable def f33s1 (v0 v1 : LI) : St := stOf [(0, .c (.sn 3 tI v0 none)), (1, .c (.sn 3 tI v1 none))] [] []
noncomputable def f33l1 : Clean := ⟨[0, 1], [], [], [], []⟩
noncomputable def f33s2 (v0 v1 : LI) (v5 : Int) : St := stOf [(0, .c (.sn 3 tI v0 none)), (1, .c (.sn 3 tI v1 none)), (5, xi v5)] [] []
noncomputable def f33l2 : Clean := ⟨[0, 1, 5], [], [], [], []⟩
noncomputable def f33s3 (v4 : Bool) : St := stOf [(4, xB v4)] [] []
noncomputable def f33l3 : Clean := ⟨[4], [], [], [], []⟩
noncomputable def f33B : Nat → Option Clean := lookL [(0, f33l1), (1000000, f33l3)]
noncomputable abbrev f33i {ρ : Type} (N : Nat) (c : Code) (p : Plan) (σ : St) (K : KT ρ) : Option ρ := iCode f33G tab f33B N c p σ K
noncomputable def f33c (n : Nat) : Code := codeN 99 (bodyOf Tryd.f33) n
theorem f33t1 N v0 v1 (K : KT ρ) : f33i N (f33c 2) .n (f33s0 v0 v1) (joinK (some f33l1) K) =
  spec_l1Less.Z1 N v0 v1 (fun v0 v1 => K .nrm (f33s1 v0 v1)) := by kernel_rfl
theorem f33t4 N v0 v1 (K : KT ρ) : f33i N (f33c 9) .n (f33s1 v0 v1) (joinK (some f33l2) K) =
  spec_l1Less.Z4 N v0 v1 (fun v0 v1 v5 => K .nrm (f33s2 v0 v1 v5)) := by kernel_rfl
theorem f33t7 N v0 v1 v5 (K : KT ρ) : f33i N (f33c 37) .n (f33s2 v0 v1 v5) (joinK (some f33l2) K) =
  spec_l1Less.Z7 N v0 v1 v5 (fun v0 v1 v5 => K .nrm (f33s2 v0 v1 v5)) (fun v0 v1 => K (.exit 0) (f33s1 v0 v1)) (fun v4 => K .ret (f33s3 v4)) := by kernel_rfl
noncomputable def f33p6 : Plan := .mk none (some f33l2) .n .n
noncomputable abbrev f33w6 {ρ : Type} (N M : Nat) (σ : St) (K : KT ρ) : Option ρ := loopC (fun σ K => f33i N (f33c 37) .n σ K) f33l2 M σ K
theorem f33t6L {ρ : Type} (N : Nat) (K : KT ρ) : ∀ (M : Nat) (v0 v1 : LI) (v5 : Int), f33w6 N M (f33s2 v0 v1 v5) K =
  spec_l1Less.Z6L N (fun v0 v1 => K (.exit 0) (f33s1 v0 v1)) (fun v4 => K .ret (f33s3 v4)) M v0 v1 v5
  | 0, _, _, _ => rfl
  | M + 1, v0, v1, v5 => viaRoundS (fun k => spec_l1Less.Z7 N v0 v1 v5 k (fun v0 v1 => K (.exit 0) (f33s1 v0 v1)) (fun v4 => K .ret (f33s3 v4))) (f33t7 N (K := seqK (fun σ => f33w6 N M σ K) K) ..) (fx3 fun v0 v1 v5 => f33t6L N K M v0 v1 v5) (by kernel_rfl)
theorem f33t6 N v0 v1 v5 (K : KT ρ) : f33i N (f33c 21) f33p6 (f33s2 v0 v1 v5) (joinK (some f33l1) K) =
  spec_l1Less.Z6 N v0 v1 v5 (fun v0 v1 => K (.exit 0) (f33s1 v0 v1)) (fun v4 => K .ret (f33s3 v4)) :=
 viaLoopS (by kernel_rfl) (f33t6L N (joinK (some f33l1) K) N v0 v1 v5) (by kernel_rfl)
noncomputable def f33p5 : Plan := .mk (some f33l1) none f33p6 .n
theorem f33t5 N v0 v1 v5 (K : KT ρ) : f33i N (f33c 13) f33p5 (f33s2 v0 v1 v5) (joinK (some f33l1) K) =
  spec_l1Less.Z5 N v0 v1 v5 (fun v0 v1 => K .nrm (f33s1 v0 v1)) (fun v4 => K .ret (f33s3 v4)) :=
 viaBlockS (by kernel_rfl) (f33t6 N (K := blockK 0 (joinK (some f33l1) K)) ..) (by kernel_rfl)
noncomputable def f33p3 : Plan := .mk (some f33l2) none .n f33p5
theorem f33t3 N v0 v1 (K : KT ρ) : f33i N (f33c 5) f33p3 (f33s1 v0 v1) (joinK (some f33l1) K) =
  spec_l1Less.Z3 N v0 v1 (fun v0 v1 => K .nrm (f33s1 v0 v1)) (fun v4 => K .ret (f33s3 v4)) :=
 viaSeqS (fun k => spec_l1Less.Z4 N v0 v1 k) (by kernel_rfl) (f33t4 N (K := seqK (fun σ => f33i N (f33c 13) f33p5 σ (joinK (some f33l1) K)) (joinK (some f33l1) K)) ..) (fx3 fun v0 v1 v5 => f33t5 N v0 v1 v5 K) (by kernel_rfl)
theorem f33t8 N v0 v1 (K : KT ρ) : f33i N (f33c 7) .n (f33s1 v0 v1) (joinK (some f33lE) K) =
  spec_l1Less.Z8 N v0 v1 (fun v4 => K .ret (f33s3 v4)) := by kernel_rfl
noncomputable def f33p2 : Plan := .mk (some f33l1) none f33p3 .n
theorem f33t2 N v0 v1 (K : KT ρ) : f33i N (f33c 3) f33p2 (f33s1 v0 v1) (joinK (some f33lE) K) =
  spec_l1Less.Z2 N v0 v1 (fun v4 => K .ret (f33s3 v4)) :=
 viaSeqS (fun k => spec_l1Less.Z3 N v0 v1 k (fun v4 => K .ret (f33s3 v4))) (by kernel_rfl) (f33t3 N (K := seqK (fun σ => f33i N (f33c 7) .n σ (joinK (some f33lE) K)) (joinK (some f33lE) K)) ..) (fx2 fun v0 v1 => f33t8 N v0 v1 K) (by kernel_rfl)
noncomputable def f33p0 : Plan := .mk (some f33l1) none .n f33p2
theorem f33t0 N v0 v1 (K : KT ρ) : f33i N (f33c 1) f33p0 (f33s0 v0 v1) (joinK (some f33lE) K) =
  spec_l1Less.Z0 N v0 v1 (fun v4 => K .ret (f33s3 v4)) :=
 viaSeqS (fun k => spec_l1Less.Z1 N v0 v1 k) (by kernel_rfl) (f33t1 N (K := seqK (fun σ => f33i N (f33c 3) f33p2 σ (joinK (some f33lE) K)) (joinK (some f33lE) K)) ..) (fx2 fun v0 v1 => f33t2 N v0 v1 K) (by kernel_rfl)
theorem f33m (N : Nat) (v0 v1 : LI) : f33i N (f33c 1) f33p0 (f33s0 v0 v1) (joinK (some f33lE) (finK tab f33sig Tryd.f33.results.toList)) = spec_l1Less.Z0 N v0 v1 (fun v4 => some ((), (v4, ()))) :=
  (f33t0 N v0 v1 (finK tab f33sig Tryd.f33.results.toList)).trans (by kernel_rfl)
theorem f33ok (h : spec_l1Less.Spec) : EntryOk Tryd.prog 33 e33 :=
  entry_of_code (sig := f33sig) (c := (f33c 1)) (pl := f33p0) (je := (some f33lE)) (B := f33B) Tryd.func33 (by kernel_rfl) (by kernel_rfl) (by kernel_rfl) tabOk f33GOk (by kernel_rfl) (by kernel_rfl) (by kernel_rfl) (by kernel_rfl) fun X hb hp => by
    obtain ⟨v0, v1, _⟩ := X
    obtain ⟨N, h⟩ := h v0 v1 hb.1 hb.2.1
    exact ⟨N, (f33m N v0 v1).trans (h N (Nat.le_refl N))⟩
theorem e33ok : EntryOk Tryd.prog 33 e33 := f33ok spec_l1Less.ok
end Go.Fw
namespace Go.Fw
variable {ρ : Type}
open Go.Proofs
noncomputable def f16sig : Sig := ⟨[⟨.pair (.int .i64) (.sl 46 (.pair (.sl 3 (.int .i64)) (.int .i64))), true, false⟩], [⟨.bool, false, false⟩]⟩
noncomputable def e16 : Entry := ⟨f16sig, none, fun X => ((), ((spec_l2Right.g X.1), ()))⟩
noncomputable def f16G : Gm := addG (addG emptyG 32 e32) 33 e33
theorem f16GOk : GOk Tryd.prog f16G := ((GOk.nil).add e32ok (by kernel_rfl)).add e33ok (by kernel_rfl)
noncomputable def f16lE : Clean := ⟨[], [], [], [], []⟩
noncomputable def f16s0 (v0 : Int × List (LI × Int)) : St := initSt f16sig.ps (v0, ())
noncomputable def f16s1 (v1_0 : Int) (v1_1 : List (LI × Int)) : St := stOf [(1, xb 1)] [(1, (29, [yi v1_0, .sn 46 (.pair (.sl 3 tI) tI) v1_1 none]))] []
noncomputable def f16l1 : Clean := ⟨[1], [1], [], [], []⟩
noncomputable def f16s2 (v3 v1_0 : Int) (v1_1 : List (LI × Int)) : St := stOf [(1, xb 1), (3, xi v3)] [(1, (29, [yi v1_0, .sn 46 (.pair (.sl 3 tI) tI) v1_1 none]))] []
noncomputable def f16l2 : Clean := ⟨[1, 3], [1], [], [], []⟩
noncomputable def f16s3 (v3 v1_0 : Int) (v1_1 : List (LI × Int)) (v4_0 : LI) (v4_1 : Int) : St := stOf [(1, xb 1), (3, xi v3), (4, xb 4)] [(1, (29, [yi v1_0, .sn 46 (.pair (.sl 3 tI) tI) v1_1 none])), (4, (46, [.sn 3 tI v4_0 none, yi v4_1]))] []
noncomputable def f16l3 : Clean := ⟨[1, 3, 4], [1, 4], [], [], []⟩
noncomputable def f16s4 (v3 v5 v1_0 : Int) (v1_1 : List (LI × Int)) (v4_0 : LI) (v4_1 : Int) : St := stOf [(1, xb 1), (3, xi v3), (4, xb 4), (5, xi v5)] [(1, (29, [yi v1_0, .sn 46 (.pair (.sl 3 tI) tI) v1_1 none])), (4, (46, [.sn 3 tI v4_0 none, yi v4_1]))] []
noncomputable def f16l4 : Clean := ⟨[1, 3, 4, 5], [1, 4], [], [], []⟩
noncomputable def f16s5  : St := stOf [] [] []
noncomputable def f16l5 : Clean := ⟨[], [], [], [], []⟩
noncomputable def f16s6 (v2 : Bool) : St := stOf [(2, xB v2)] [] []
noncomputable def f16l6 : Clean := ⟨[2], [], [], [], []⟩
noncomputable def f16B : Nat → Option Clean := lookL [(2, f16l2), (1, f16l2), (0, f16l5), (1000000, f16l6)]
noncomputable abbrev f16i {ρ : Type} (N : Nat) (c : Code) (p : Plan) (σ : St) (K : KT ρ) : Option ρ := iCode f16G tab f16B N c p σ K
noncomputable def f16c (n : Nat) : Code := codeN 99 (bodyOf Tryd.f16) n
theorem f16t1 N v0 (K : KT ρ) : f16i N (f16c 2) .n (f16s0 v0) (joinK (some f16l1) K) =
  spec_l2Right.Z1 N v0 (fun v1_0 v1_1 => K .nrm (f16s1 v1_0 v1_1)) := by kernel_rfl
theorem f16t3 N v1_0 v1_1 (K : KT ρ) : f16i N (f16c 5) .n (f16s1 v1_0 v1_1) (joinK (some f16l1) K) =
  spec_l2Right.Z3 N v1_0 v1_1 (fun v1_0 v1_1 => K .nrm (f16s1 v1_0 v1_1)) (fun v2 => K .ret (f16s6 v2)) := by kernel_rfl
theorem f16t6 N v1_0 v1_1 (K : KT ρ) : f16i N (f16c 19) .n (f16s1 v1_0 v1_1) (joinK (some f16l2) K) =
  spec_l2Right.Z6 N v1_0 v1_1 (fun v3 v1_0 v1_1 => K .nrm (f16s2 v3 v1_0 v1_1)) := by kernel_rfl
theorem f16t10 N v3 v1_0 v1_1 (K : KT ρ) : f16i N (f16c 139) .n (f16s2 v3 v1_0 v1_1) (joinK (some f16l2) K) =
  spec_l2Right.Z10 N v3 v1_0 v1_1 (fun v3 v1_0 v1_1 => K .nrm (f16s2 v3 v1_0 v1_1)) (K (.exit 0) f16s5) := by kernel_rfl
theorem f16t14 N v3 v1_0 v1_1 (K : KT ρ) : f16i N (f16c 1099) .n (f16s2 v3 v1_0 v1_1) (joinK (some f16l3) K) =
  spec_l2Right.Z14 N v3 v1_0 v1_1 (fun v3 v1_0 v1_1 v4_0 v4_1 => K .nrm (f16s3 v3 v1_0 v1_1 v4_0 v4_1)) := by kernel_rfl
theorem f16t16 N v3 v1_0 v1_1 v4_0 v4_1 (K : KT ρ) : f16i N (f16c 2635) .n (f16s3 v3 v1_0 v1_1 v4_0 v4_1) (joinK (some f16l3) K) =
  spec_l2Right.Z16 N v3 v1_0 v1_1 v4_0 v4_1 (fun v3 v1_0 v1_1 v4_0 v4_1 => K .nrm (f16s3 v3 v1_0 v1_1 v4_0 v4_1)) (fun v2 => K .ret (f16s6 v2)) := by kernel_rfl
theorem f16t18 N v3 v1_0 v1_1 v4_0 v4_1 (K : KT ρ) : f16i N (f16c 5707) .n (f16s3 v3 v1_0 v1_1 v4_0 v4_1) (joinK (some f16l4) K) =
  spec_l2Right.Z18 N v3 v1_0 v1_1 v4_0 v4_1 (fun v3 v5 v1_0 v1_1 v4_0 v4_1 => K .nrm (f16s4 v3 v5 v1_0 v1_1 v4_0 v4_1)) := by kernel_rfl
theorem f16t21 N v3 v5 v1_0 v1_1 v4_0 v4_1 (K : KT ρ) : f16i N (f16c 20043) .n (f16s4 v3 v5 v1_0 v1_1 v4_0 v4_1) (joinK (some f16l4) K) =
  spec_l2Right.Z21 N v3 v5 v1_0 v1_1 v4_0 v4_1 (fun v3 v5 v1_0 v1_1 v4_0 v4_1 => K .nrm (f16s4 v3 v5 v1_0 v1_1 v4_0 v4_1)) (fun v3 v1_0 v1_1 => K (.exit 2) (f16s2 v3 v1_0 v1_1)) (fun v2 => K .ret (f16s6 v2)) := by kernel_rfl
noncomputable def f16p20 : Plan := .mk none (some f16l4) .n .n
noncomputable abbrev f16w20 {ρ : Type} (N M : Nat) (σ : St) (K : KT ρ) : Option ρ := loopC (fun σ K => f16i N (f16c 20043) .n σ K) f16l4 M σ K
theorem f16t20L {ρ : Type} (N : Nat) (K : KT ρ) : ∀ (M : Nat) (v3 v5 v1_0 : Int) (v1_1 : List (LI × Int)) (v4_0 : LI) (v4_1 : Int), f16w20 N M (f16s4 v3 v5 v1_0 v1_1 v4_0 v4_1) K =
  spec_l2Right.Z20L N (fun v3 v1_0 v1_1 => K (.exit 2) (f16s2 v3 v1_0 v1_1)) (fun v2 => K .ret (f16s6 v2)) M v3 v5 v1_0 v1_1 v4_0 v4_1
  | 0, _, _, _, _, _, _ => rfl
  | M + 1, v3, v5, v1_0, v1_1, v4_0, v4_1 => viaRoundS (fun k => spec_l2Right.Z21 N v3 v5 v1_0 v1_1 v4_0 v4_1 k (fun v3 v1_0 v1_1 => K (.exit 2) (f16s2 v3 v1_0 v1_1)) (fun v2 => K .ret (f16s6 v2))) (f16t21 N (K := seqK (fun σ => f16w20 N M σ K) K) ..) (fx6 fun v3 v5 v1_0 v1_1 v4_0 v4_1 => f16t20L N K M v3 v5 v1_0 v1_1 v4_0 v4_1) (by kernel_rfl)
theorem f16t20 N v3 v5 v1_0 v1_1 v4_0 v4_1 (K : KT ρ) : f16i N (f16c 11851) f16p20 (f16s4 v3 v5 v1_0 v1_1 v4_0 v4_1) (joinK (some f16l2) K) =
  spec_l2Right.Z20 N v3 v5 v1_0 v1_1 v4_0 v4_1 (fun v3 v1_0 v1_1 => K (.exit 2) (f16s2 v3 v1_0 v1_1)) (fun v2 => K .ret (f16s6 v2)) :=
 viaLoopS (by kernel_rfl) (f16t20L N (joinK (some f16l2) K) N v3 v5 v1_0 v1_1 v4_0 v4_1) (by kernel_rfl)
noncomputable def f16p19 : Plan := .mk (some f16l2) none f16p20 .n
theorem f16t19 N v3 v5 v1_0 v1_1 v4_0 v4_1 (K : KT ρ) : f16i N (f16c 7755) f16p19 (f16s4 v3 v5 v1_0 v1_1 v4_0 v4_1) (joinK (some f16l2) K) =
  spec_l2Right.Z19 N v3 v5 v1_0 v1_1 v4_0 v4_1 (fun v3 v1_0 v1_1 => K .nrm (f16s2 v3 v1_0 v1_1)) (fun v2 => K .ret (f16s6 v2)) :=
 viaBlockS (by kernel_rfl) (f16t20 N (K := blockK 2 (joinK (some f16l2) K)) ..) (by kernel_rfl)
noncomputable def f16p17 : Plan := .mk (some f16l4) none .n f16p19
theorem f16t17 N v3 v1_0 v1_1 v4_0 v4_1 (K : KT ρ) : f16i N (f16c 3659) f16p17 (f16s3 v3 v1_0 v1_1 v4_0 v4_1) (joinK (some f16l2) K) =
  spec_l2Right.Z17 N v3 v1_0 v1_1 v4_0 v4_1 (fun v3 v1_0 v1_1 => K .nrm (f16s2 v3 v1_0 v1_1)) (fun v2 => K .ret (f16s6 v2)) :=
 viaSeqS (fun k => spec_l2Right.Z18 N v3 v1_0 v1_1 v4_0 v4_1 k) (by kernel_rfl) (f16t18 N (K := seqK (fun σ => f16i N (f16c 7755) f16p19 σ (joinK (some f16l2) K)) (joinK (some f16l2) K)) ..) (fx6 fun v3 v5 v1_0 v1_1 v4_0 v4_1 => f16t19 N v3 v5 v1_0 v1_1 v4_0 v4_1 K) (by kernel_rfl)
noncomputable def f16p15 : Plan := .mk (some f16l3) none .n f16p17
theorem f16t15 N v3 v1_0 v1_1 v4_0 v4_1 (K : KT ρ) : f16i N (f16c 1611) f16p15 (f16s3 v3 v1_0 v1_1 v4_0 v4_1) (joinK (some f16l2) K) =
  spec_l2Right.Z15 N v3 v1_0 v1_1 v4_0 v4_1 (fun v3 v1_0 v1_1 => K .nrm (f16s2 v3 v1_0 v1_1)) (fun v2 => K .ret (f16s6 v2)) :=
 viaSeqS (fun k => spec_l2Right.Z16 N v3 v1_0 v1_1 v4_0 v4_1 k (fun v2 => K .ret (f16s6 v2))) (by kernel_rfl) (f16t16 N (K := seqK (fun σ => f16i N (f16c 3659) f16p17 σ (joinK (some f16l2) K)) (joinK (some f16l2) K)) ..) (fx5 fun v3 v1_0 v1_1 v4_0 v4_1 => f16t17 N v3 v1_0 v1_1 v4_0 v4_1 K) (by kernel_rfl)
noncomputable def f16p13 : Plan := .mk (some f16l3) none .n f16p15
theorem f16t13 N v3 v1_0 v1_1 (K : KT ρ) : f16i N (f16c 587) f16p13 (f16s2 v3 v1_0 v1_1) (joinK (some f16l2) K) =
  spec_l2Right.Z13 N v3 v1_0 v1_1 (fun v3 v1_0 v1_1 => K .nrm (f16s2 v3 v1_0 v1_1)) (fun v2 => K .ret (f16s6 v2)) :=
 viaSeqS (fun k => spec_l2Right.Z14 N v3 v1_0 v1_1 k) (by kernel_rfl) (f16t14 N (K := seqK (fun σ => f16i N (f16c 1611) f16p15 σ (joinK (some f16l2) K)) (joinK (some f16l2) K)) ..) (fx5 fun v3 v1_0 v1_1 v4_0 v4_1 => f16t15 N v3 v1_0 v1_1 v4_0 v4_1 K) (by kernel_rfl)
noncomputable def f16p12 : Plan := .mk (some f16l2) none f16p13 .n
theorem f16t12 N v3 v1_0 v1_1 (K : KT ρ) : f16i N (f16c 331) f16p12 (f16s2 v3 v1_0 v1_1) (joinK (some f16l2) K) =
  spec_l2Right.Z12 N v3 v1_0 v1_1 (fun v3 v1_0 v1_1 => K .nrm (f16s2 v3 v1_0 v1_1)) (fun v2 => K .ret (f16s6 v2)) :=
 viaBlockS (by kernel_rfl) (f16t13 N (K := blockK 1 (joinK (some f16l2) K)) ..) (by kernel_rfl)
theorem f16t22 N v3 v1_0 v1_1 (K : KT ρ) : f16i N (f16c 459) .n (f16s2 v3 v1_0 v1_1) (joinK (some f16l2) K) =
  spec_l2Right.Z22 N v3 v1_0 v1_1 (fun v3 v1_0 v1_1 => K .nrm (f16s2 v3 v1_0 v1_1)) := by kernel_rfl
noncomputable def f16p11 : Plan := .mk (some f16l2) none f16p12 .n
theorem f16t11 N v3 v1_0 v1_1 (K : KT ρ) : f16i N (f16c 203) f16p11 (f16s2 v3 v1_0 v1_1) (joinK (some f16l2) K) =
  spec_l2Right.Z11 N v3 v1_0 v1_1 (fun v3 v1_0 v1_1 => K .nrm (f16s2 v3 v1_0 v1_1)) (fun v2 => K .ret (f16s6 v2)) :=
 viaSeqS (fun k => spec_l2Right.Z12 N v3 v1_0 v1_1 k (fun v2 => K .ret (f16s6 v2))) (by kernel_rfl) (f16t12 N (K := seqK (fun σ => f16i N (f16c 459) .n σ (joinK (some f16l2) K)) (joinK (some f16l2) K)) ..) (fx3 fun v3 v1_0 v1_1 => f16t22 N v3 v1_0 v1_1 K) (by kernel_rfl)
noncomputable def f16p9 : Plan := .mk (some f16l2) none .n f16p11
theorem f16t9 N v3 v1_0 v1_1 (K : KT ρ) : f16i N (f16c 75) f16p9 (f16s2 v3 v1_0 v1_1) (joinK (some f16l2) K) =
  spec_l2Right.Z9 N v3 v1_0 v1_1 (fun v3 v1_0 v1_1 => K .nrm (f16s2 v3 v1_0 v1_1)) (K (.exit 0) f16s5) (fun v2 => K .ret (f16s6 v2)) :=
 viaSeqS (fun k => spec_l2Right.Z10 N v3 v1_0 v1_1 k (K (.exit 0) f16s5)) (by kernel_rfl) (f16t10 N (K := seqK (fun σ => f16i N (f16c 203) f16p11 σ (joinK (some f16l2) K)) (joinK (some f16l2) K)) ..) (fx3 fun v3 v1_0 v1_1 => f16t11 N v3 v1_0 v1_1 K) (by kernel_rfl)
noncomputable def f16p8 : Plan := .mk none (some f16l2) f16p9 .n
noncomputable abbrev f16w8 {ρ : Type} (N M : Nat) (σ : St) (K : KT ρ) : Option ρ := loopC (fun σ K => f16i N (f16c 75) f16p9 σ K) f16l2 M σ K
theorem f16t8L {ρ : Type} (N : Nat) (K : KT ρ) : ∀ (M : Nat) (v3 v1_0 : Int) (v1_1 : List (LI × Int)), f16w8 N M (f16s2 v3 v1_0 v1_1) K =
  spec_l2Right.Z8L N (K (.exit 0) f16s5) (fun v2 => K .ret (f16s6 v2)) M v3 v1_0 v1_1
  | 0, _, _, _ => rfl
  | M + 1, v3, v1_0, v1_1 => viaRoundS (fun k => spec_l2Right.Z9 N v3 v1_0 v1_1 k (K (.exit 0) f16s5) (fun v2 => K .ret (f16s6 v2))) (f16t9 N (K := seqK (fun σ => f16w8 N M σ K) K) ..) (fx3 fun v3 v1_0 v1_1 => f16t8L N K M v3 v1_0 v1_1) (by kernel_rfl)
theorem f16t8 N v3 v1_0 v1_1 (K : KT ρ) : f16i N (f16c 43) f16p8 (f16s2 v3 v1_0 v1_1) (joinK (some f16l5) K) =
  spec_l2Right.Z8 N v3 v1_0 v1_1 (K (.exit 0) f16s5) (fun v2 => K .ret (f16s6 v2)) :=
 viaLoopS (by kernel_rfl) (f16t8L N (joinK (some f16l5) K) N v3 v1_0 v1_1) (by kernel_rfl)
noncomputable def f16p7 : Plan := .mk (some f16l5) none f16p8 .n
theorem f16t7 N v3 v1_0 v1_1 (K : KT ρ) : f16i N (f16c 27) f16p7 (f16s2 v3 v1_0 v1_1) (joinK (some f16l5) K) =
  spec_l2Right.Z7 N v3 v1_0 v1_1 (K .nrm f16s5) (fun v2 => K .ret (f16s6 v2)) :=
 viaBlockS (by kernel_rfl) (f16t8 N (K := blockK 0 (joinK (some f16l5) K)) ..) (by kernel_rfl)
noncomputable def f16p5 : Plan := .mk (some f16l2) none .n f16p7
theorem f16t5 N v1_0 v1_1 (K : KT ρ) : f16i N (f16c 11) f16p5 (f16s1 v1_0 v1_1) (joinK (some f16l5) K) =
  spec_l2Right.Z5 N v1_0 v1_1 (K .nrm f16s5) (fun v2 => K .ret (f16s6 v2)) :=
 viaSeqS (fun k => spec_l2Right.Z6 N v1_0 v1_1 k) (by kernel_rfl) (f16t6 N (K := seqK (fun σ => f16i N (f16c 27) f16p7 σ (joinK (some f16l5) K)) (joinK (some f16l5) K)) ..) (fx3 fun v3 v1_0 v1_1 => f16t7 N v3 v1_0 v1_1 K) (by kernel_rfl)
theorem f16t23 N  (K : KT ρ) : f16i N (f16c 15) .n f16s5 (joinK (some f16lE) K) =
  spec_l2Right.Z23 N (fun v2 => K .ret (f16s6 v2)) := by kernel_rfl
noncomputable def f16p4 : Plan := .mk (some f16l5) none f16p5 .n
theorem f16t4 N v1_0 v1_1 (K : KT ρ) : f16i N (f16c 7) f16p4 (f16s1 v1_0 v1_1) (joinK (some f16lE) K) =
  spec_l2Right.Z4 N v1_0 v1_1 (fun v2 => K .ret (f16s6 v2)) :=
 viaSeqS (fun k => spec_l2Right.Z5 N v1_0 v1_1 k (fun v2 => K .ret (f16s6 v2))) (by kernel_rfl) (f16t5 N (K := seqK (fun σ => f16i N (f16c 15) .n σ (joinK (some f16lE) K)) (joinK (some f16lE) K)) ..) (f16t23 N K) (by kernel_rfl)
noncomputable def f16p2 : Plan := .mk (some f16l1) none .n f16p4
theorem f16t2 N v1_0 v1_1 (K : KT ρ) : f16i N (f16c 3) f16p2 (f16s1 v1_0 v1_1) (joinK (some f16lE) K) =
  spec_l2Right.Z2 N v1_0 v1_1 (fun v2 => K .ret (f16s6 v2)) :=
 viaSeqS (fun k => spec_l2Right.Z3 N v1_0 v1_1 k (fun v2 => K .ret (f16s6 v2))) (by kernel_rfl) (f16t3 N (K := seqK (fun σ => f16i N (f16c 7) f16p4 σ (joinK (some f16lE) K)) (joinK (some f16lE) K)) ..) (fx2 fun v1_0 v1_1 => f16t4 N v1_0 v1_1 K) (by kernel_rfl)
noncomputable def f16p0 : Plan := .mk (some f16l1) none .n f16p2
theorem f16t0 N v0 (K : KT ρ) : f16i N (f16c 1) f16p0 (f16s0 v0) (joinK (some f16lE) K) =
  spec_l2Right.Z0 N v0 (fun v2 => K .ret (f16s6 v2)) :=
 viaSeqS (fun k => spec_l2Right.Z1 N v0 k) (by kernel_rfl) (f16t1 N (K := seqK (fun σ => f16i N (f16c 3) f16p2 σ (joinK (some f16lE) K)) (joinK (some f16lE) K)) ..) (fx2 fun v1_0 v1_1 => f16t2 N v1_0 v1_1 K) (by kernel_rfl)
theorem f16m (N : Nat) (v0 : Int × List (LI × Int)) : f16i N (f16c 1) f16p0 (f16s0 v0) (joinK (some f16lE) (finK tab f16sig Tryd.f16.results.toList)) = spec_l2Right.Z0 N v0 (fun v2 => some ((), (v2, ()))) :=
  (f16t0 N v0 (finK tab f16sig Tryd.f16.results.toList)).trans (by kernel_rfl)
theorem f16ok (h : spec_l2Right.Spec) : EntryOk Tryd.prog 16 e16 :=
  entry_of_code (sig := f16sig) (c := (f16c 1)) (pl := f16p0) (je := (some f16lE)) (B := f16B) Tryd.func16 (by kernel_rfl) (by kernel_rfl) (by kernel_rfl) tabOk f16GOk (by kernel_rfl) (by kernel_rfl) (by kernel_rfl) (by kernel_rfl) fun X hb hp => by
    obtain ⟨v0, _⟩ := X
    obtain ⟨N, h⟩ := h v0 hb.1
    exact ⟨N, (f16m N v0).trans (h N (Nat.le_refl N))⟩
theorem e16ok : EntryOk Tryd.prog 16 e16 := f16ok spec_l2Right.ok
end Go.Fw
namespace Go.Fw
variable {ρ : Type}
open Go.Proofs
noncomputable def f17sig : Sig := ⟨[⟨.int .i64, false, false⟩], [⟨.str, false, false⟩]⟩
noncomputable def e17 : Entry := ⟨f17sig, (some fun X => spec_FormatInt.P X.1), fun X => ((), ((spec_FormatInt.g X.1), ()))⟩
noncomputable def f17G : Gm := emptyG
theorem f17GOk : GOk Tryd.prog f17G := GOk.nil
noncomputable def f17lE : Clean := ⟨[], [], [], [], []⟩
noncomputable def f17s0 (v0 : Int) : St := initSt f17sig.ps (v0, ())
noncomputable def f17s1 (v0 : Int) : St := stOf [(0, xi v0)] [] []
noncomputable def f17l1 : Clean := ⟨[0], [], [], [], []⟩
noncomputable def f17s2 (v3 : List Int) (v0 : Int) : St := stOf [(0, xi v0), (3, xo 1000192)] [] [(1000192, (⟨5, .int .u8, v3, true, false⟩ : Row))]
noncomputable def f17l2 : Clean := ⟨[0, 3], [], [], [], [(⟨false, 3, 0⟩, 1000192)]⟩
noncomputable def f17s3 (v3 : List Int) (v0 v4 : Int) : St := stOf [(0, xi v0), (3, xo 1000192), (4, xi v4)] [] [(1000192, (⟨5, .int .u8, v3, true, false⟩ : Row))]
noncomputable def f17l3 : Clean := ⟨[0, 3, 4], [], [], [], [(⟨false, 3, 0⟩, 1000192)]⟩
noncomputable def f17s4 (v3 v6 : List Int) (v0 : Int) : St := stOf [(0, xi v0), (3, xo 1000192), (6, xo 1000384)] [] [(1000192, (⟨5, .int .u8, v3, true, false⟩ : Row)), (1000384, (⟨5, .int .u8, v6, true, false⟩ : Row))]
noncomputable def f17l4 : Clean := ⟨[0, 3, 6], [], [], [], [(⟨false, 3, 0⟩, 1000192), (⟨false, 6, 0⟩, 1000384)]⟩
noncomputable def f17s5 (v3 v6 : List Int) : St := stOf [(3, xo 1000192), (6, xo 1000384)] [] [(1000192, (⟨5, .int .u8, v3, true, false⟩ : Row)), (1000384, (⟨5, .int .u8, v6, true, false⟩ : Row))]
noncomputable def f17l5 : Clean := ⟨[3, 6], [], [], [], [(⟨false, 3, 0⟩, 1000192), (⟨false, 6, 0⟩, 1000384)]⟩
noncomputable def f17s6 (v3 v6 : List Int) (v7 : Int) : St := stOf [(3, xo 1000192), (6, xo 1000384), (7, xi v7)] [] [(1000192, (⟨5, .int .u8, v3, true, false⟩ : Row)), (1000384, (⟨5, .int .u8, v6, true, false⟩ : Row))]
noncomputable def f17l6 : Clean := ⟨[3, 6, 7], [], [], [], [(⟨false, 3, 0⟩, 1000192), (⟨false, 6, 0⟩, 1000384)]⟩
noncomputable def f17s7 (v6 : List Int) : St := stOf [(6, xo 1000384)] [] [(1000384, (⟨5, .int .u8, v6, true, false⟩ : Row))]
noncomputable def f17l7 : Clean := ⟨[6], [], [], [], [(⟨false, 6, 0⟩, 1000384)]⟩
noncomputable def f17s8 (v2 : ByteArray) : St := stOf [(2, .c (.str v2))] [] []
noncomputable def f17l8 : Clean := ⟨[2], [], [], [], []⟩
noncomputable def f17B : Nat → Option Clean := lookL [(0, f17l2), (2, f17l7), (1000000, f17l8)]
noncomputable abbrev f17i {ρ : Type} (N : Nat) (c : Code) (p : Plan) (σ : St) (K : KT ρ) : Option ρ := iCode f17G tab f17B N c p σ K
noncomputable def f17c (n : Nat) : Code := codeN 99 (bodyOf Tryd.f17) n
theorem f17t1 N v0 (K : KT ρ) : f17i N (f17c 2) .n (f17s0 v0) (joinK (some f17l1) K) =
  spec_FormatInt.Z1 N v0 (fun v0 => K .nrm (f17s1 v0)) := by kernel_rfl
theorem f17t3 N v0 (K : KT ρ) : f17i N (f17c 5) .n (f17s1 v0) (joinK (some f17l2) K) =
  spec_FormatInt.Z3 N v0 (fun v3 v0 => K .nrm (f17s2 v3 v0)) := by kernel_rfl
theorem f17t5 N v3 v0 (K : KT ρ) : f17i N (f17c 11) .n (f17s2 v3 v0) (joinK (some f17l3) K) =
  spec_FormatInt.Z5 N v3 v0 (fun v3 v0 v4 => K .nrm (f17s3 v3 v0 v4)) := by kernel_rfl
theorem f17t9 N v3 v0 v4 (K : KT ρ) : f17i N (f17c 71) .n (f17s3 v3 v0 v4) (joinK (some f17l3) K) =
  spec_FormatInt.Z9 N v3 v0 v4 (fun v3 v0 v4 => K .nrm (f17s3 v3 v0 v4)) (fun v3 v0 => K (.exit 0) (f17s2 v3 v0)) := by kernel_rfl
noncomputable def f17p8 : Plan := .mk none (some f17l3) .n .n
noncomputable abbrev f17w8 {ρ : Type} (N M : Nat) (σ : St) (K : KT ρ) : Option ρ := loopC (fun σ K => f17i N (f17c 71) .n σ K) f17l3 M σ K
theorem f17t8L {ρ : Type} (N : Nat) (K : KT ρ) : ∀ (M : Nat) (v3 : List Int) (v0 v4 : Int), f17w8 N M (f17s3 v3 v0 v4) K =
  spec_FormatInt.Z8L N (fun v3 v0 => K (.exit 0) (f17s2 v3 v0)) M v3 v0 v4
  | 0, _, _, _ => rfl
  | M + 1, v3, v0, v4 => viaRoundS (fun k => spec_FormatInt.Z9 N v3 v0 v4 k (fun v3 v0 => K (.exit 0) (f17s2 v3 v0))) (f17t9 N (K := seqK (fun σ => f17w8 N M σ K) K) ..) (fx3 fun v3 v0 v4 => f17t8L N K M v3 v0 v4) (by kernel_rfl)
theorem f17t8 N v3 v0 v4 (K : KT ρ) : f17i N (f17c 39) f17p8 (f17s3 v3 v0 v4) (joinK (some f17l2) K) =
  spec_FormatInt.Z8 N v3 v0 v4 (fun v3 v0 => K (.exit 0) (f17s2 v3 v0)) :=
 viaLoopS (by kernel_rfl) (f17t8L N (joinK (some f17l2) K) N v3 v0 v4) (by kernel_rfl)
noncomputable def f17p7 : Plan := .mk (some f17l2) none f17p8 .n
theorem f17t7 N v3 v0 v4 (K : KT ρ) : f17i N (f17c 23) f17p7 (f17s3 v3 v0 v4) (joinK (some f17l2) K) =
  spec_FormatInt.Z7 N v3 v0 v4 (fun v3 v0 => K .nrm (f17s2 v3 v0)) :=
 viaBlockS (by kernel_rfl) (f17t8 N (K := blockK 0 (joinK (some f17l2) K)) ..) (by kernel_rfl)
theorem f17t11 N v3 v0 (K : KT ρ) : f17i N (f17c 47) .n (f17s2 v3 v0) (joinK (some f17l4) K) =
  spec_FormatInt.Z11 N v3 v0 (fun v3 v6 v0 => K .nrm (f17s4 v3 v6 v0)) := by kernel_rfl
theorem f17t13 N v3 v6 v0 (K : KT ρ) : f17i N (f17c 95) .n (f17s4 v3 v6 v0) (joinK (some f17l5) K) =
  spec_FormatInt.Z13 N v3 v6 v0 (fun v3 v6 => K .nrm (f17s5 v3 v6)) := by kernel_rfl
theorem f17t16 N v3 v6 (K : KT ρ) : f17i N (f17c 319) .n (f17s5 v3 v6) (joinK (some f17l6) K) =
  spec_FormatInt.Z16 N v3 v6 (fun v3 v6 v7 => K .nrm (f17s6 v3 v6 v7)) := by kernel_rfl
theorem f17t19 N v3 v6 v7 (K : KT ρ) : f17i N (f17c 1215) .n (f17s6 v3 v6 v7) (joinK (some f17l6) K) =
  spec_FormatInt.Z19 N v3 v6 v7 (fun v3 v6 v7 => K .nrm (f17s6 v3 v6 v7)) (fun v6 => K (.exit 2) (f17s7 v6)) := by kernel_rfl
noncomputable def f17p18 : Plan := .mk none (some f17l6) .n .n
noncomputable abbrev f17w18 {ρ : Type} (N M : Nat) (σ : St) (K : KT ρ) : Option ρ := loopC (fun σ K => f17i N (f17c 1215) .n σ K) f17l6 M σ K
theorem f17t18L {ρ : Type} (N : Nat) (K : KT ρ) : ∀ (M : Nat) (v3 v6 : List Int) (v7 : Int), f17w18 N M (f17s6 v3 v6 v7) K =
  spec_FormatInt.Z18L N (fun v6 => K (.exit 2) (f17s7 v6)) M v3 v6 v7
  | 0, _, _, _ => rfl
  | M + 1, v3, v6, v7 => viaRoundS (fun k => spec_FormatInt.Z19 N v3 v6 v7 k (fun v6 => K (.exit 2) (f17s7 v6))) (f17t19 N (K := seqK (fun σ => f17w18 N M σ K) K) ..) (fx3 fun v3 v6 v7 => f17t18L N K M v3 v6 v7) (by kernel_rfl)
theorem f17t18 N v3 v6 v7 (K : KT ρ) : f17i N (f17c 703) f17p18 (f17s6 v3 v6 v7) (joinK (some f17l7) K) =
  spec_FormatInt.Z18 N v3 v6 v7 (fun v6 => K (.exit 2) (f17s7 v6)) :=
 viaLoopS (by kernel_rfl) (f17t18L N (joinK (some f17l7) K) N v3 v6 v7) (by kernel_rfl)
noncomputable def f17p17 : Plan := .mk (some f17l7) none f17p18 .n
theorem f17t17 N v3 v6 v7 (K : KT ρ) : f17i N (f17c 447) f17p17 (f17s6 v3 v6 v7) (joinK (some f17l7) K) =
  spec_FormatInt.Z17 N v3 v6 v7 (fun v6 => K .nrm (f17s7 v6)) :=
 viaBlockS (by kernel_rfl) (f17t18 N (K := blockK 2 (joinK (some f17l7) K)) ..) (by kernel_rfl)
noncomputable def f17p15 : Plan := .mk (some f17l6) none .n f17p17
theorem f17t15 N v3 v6 (K : KT ρ) : f17i N (f17c 191) f17p15 (f17s5 v3 v6) (joinK (some f17l7) K) =
  spec_FormatInt.Z15 N v3 v6 (fun v6 => K .nrm (f17s7 v6)) :=
 viaSeqS (fun k => spec_FormatInt.Z16 N v3 v6 k) (by kernel_rfl) (f17t16 N (K := seqK (fun σ => f17i N (f17c 447) f17p17 σ (joinK (some f17l7) K)) (joinK (some f17l7) K)) ..) (fx3 fun v3 v6 v7 => f17t17 N v3 v6 v7 K) (by kernel_rfl)
theorem f17t20 N v6 (K : KT ρ) : f17i N (f17c 255) .n (f17s7 v6) (joinK (some f17lE) K) =
  spec_FormatInt.Z20 N v6 (fun v2 => K .ret (f17s8 v2)) := by kernel_rfl
noncomputable def f17p14 : Plan := .mk (some f17l7) none f17p15 .n
theorem f17t14 N v3 v6 (K : KT ρ) : f17i N (f17c 127) f17p14 (f17s5 v3 v6) (joinK (some f17lE) K) =
  spec_FormatInt.Z14 N v3 v6 (fun v2 => K .ret (f17s8 v2)) :=
 viaSeqS (fun k => spec_FormatInt.Z15 N v3 v6 k) (by kernel_rfl) (f17t15 N (K := seqK (fun σ => f17i N (f17c 255) .n σ (joinK (some f17lE) K)) (joinK (some f17lE) K)) ..) (funext fun v6 => f17t20 N v6 K) (by kernel_rfl)
noncomputable def f17p12 : Plan := .mk (some f17l5) none .n f17p14
theorem f17t12 N v3 v6 v0 (K : KT ρ) : f17i N (f17c 63) f17p12 (f17s4 v3 v6 v0) (joinK (some f17lE) K) =
  spec_FormatInt.Z12 N v3 v6 v0 (fun v2 => K .ret (f17s8 v2)) :=
 viaSeqS (fun k => spec_FormatInt.Z13 N v3 v6 v0 k) (by kernel_rfl) (f17t13 N (K := seqK (fun σ => f17i N (f17c 127) f17p14 σ (joinK (some f17lE) K)) (joinK (some f17lE) K)) ..) (fx2 fun v3 v6 => f17t14 N v3 v6 K) (by kernel_rfl)
noncomputable def f17p10 : Plan := .mk (some f17l4) none .n f17p12
theorem f17t10 N v3 v0 (K : KT ρ) : f17i N (f17c 31) f17p10 (f17s2 v3 v0) (joinK (some f17lE) K) =
  spec_FormatInt.Z10 N v3 v0 (fun v2 => K .ret (f17s8 v2)) :=
 viaSeqS (fun k => spec_FormatInt.Z11 N v3 v0 k) (by kernel_rfl) (f17t11 N (K := seqK (fun σ => f17i N (f17c 63) f17p12 σ (joinK (some f17lE) K)) (joinK (some f17lE) K)) ..) (fx3 fun v3 v6 v0 => f17t12 N v3 v6 v0 K) (by kernel_rfl)
noncomputable def f17p6 : Plan := .mk (some f17l2) none f17p7 f17p10
theorem f17t6 N v3 v0 v4 (K : KT ρ) : f17i N (f17c 15) f17p6 (f17s3 v3 v0 v4) (joinK (some f17lE) K) =
  spec_FormatInt.Z6 N v3 v0 v4 (fun v2 => K .ret (f17s8 v2)) :=
 viaSeqS (fun k => spec_FormatInt.Z7 N v3 v0 v4 k) (by kernel_rfl) (f17t7 N (K := seqK (fun σ => f17i N (f17c 31) f17p10 σ (joinK (some f17lE) K)) (joinK (some f17lE) K)) ..) (fx2 fun v3 v0 => f17t10 N v3 v0 K) (by kernel_rfl)
noncomputable def f17p4 : Plan := .mk (some f17l3) none .n f17p6
theorem f17t4 N v3 v0 (K : KT ρ) : f17i N (f17c 7) f17p4 (f17s2 v3 v0) (joinK (some f17lE) K) =
  spec_FormatInt.Z4 N v3 v0 (fun v2 => K .ret (f17s8 v2)) :=
 viaSeqS (fun k => spec_FormatInt.Z5 N v3 v0 k) (by kernel_rfl) (f17t5 N (K := seqK (fun σ => f17i N (f17c 15) f17p6 σ (joinK (some f17lE) K)) (joinK (some f17lE) K)) ..) (fx3 fun v3 v0 v4 => f17t6 N v3 v0 v4 K) (by kernel_rfl)
noncomputable def f17p2 : Plan := .mk (some f17l2) none .n f17p4
theorem f17t2 N v0 (K : KT ρ) : f17i N (f17c 3) f17p2 (f17s1 v0) (joinK (some f17lE) K) =
  spec_FormatInt.Z2 N v0 (fun v2 => K .ret (f17s8 v2)) :=
 viaSeqS (fun k => spec_FormatInt.Z3 N v0 k) (by kernel_rfl) (f17t3 N (K := seqK (fun σ => f17i N (f17c 7) f17p4 σ (joinK (some f17lE) K)) (joinK (some f17lE) K)) ..) (fx2 fun v3 v0 => f17t4 N v3 v0 K) (by kernel_rfl)
noncomputable def f17p0 : Plan := .mk (some f17l1) none .n f17p2
theorem f17t0 N v0 (K : KT ρ) : f17i N (f17c 1) f17p0 (f17s0 v0) (joinK (some f17lE) K) =
  spec_FormatInt.Z0 N v0 (fun v2 => K .ret (f17s8 v2)) :=
 viaSeqS (fun k => spec_FormatInt.Z1 N v0 k) (by kernel_rfl) (f17t1 N (K := seqK (fun σ => f17i N (f17c 3) f17p2 σ (joinK (some f17lE) K)) (joinK (some f17lE) K)) ..) (funext fun v0 => f17t2 N v0 K) (by kernel_rfl)
theorem f17m (N : Nat) (v0 : Int) : f17i N (f17c 1) f17p0 (f17s0 v0) (joinK (some f17lE) (finK tab f17sig Tryd.f17.results.toList)) = spec_FormatInt.Z0 N v0 (fun v2 => some ((), (v2, ()))) :=
  (f17t0 N v0 (finK tab f17sig Tryd.f17.results.toList)).trans (by kernel_rfl)
theorem f17ok (h : spec_FormatInt.Spec) : EntryOk Tryd.prog 17 e17 :=
  entry_of_code (sig := f17sig) (c := (f17c 1)) (pl := f17p0) (je := (some f17lE)) (B := f17B) Tryd.func17 (by kernel_rfl) (by kernel_rfl) (by kernel_rfl) tabOk f17GOk (by kernel_rfl) (by kernel_rfl) (by kernel_rfl) (by kernel_rfl) fun X hb hp => by
    obtain ⟨v0, _⟩ := X
    obtain ⟨N, h⟩ := h v0 hp
    exact ⟨N, (f17m N v0).trans (h N (Nat.le_refl N))⟩
theorem e17ok : EntryOk Tryd.prog 17 e17 := f17ok spec_FormatInt.ok
end Go.Fw
namespace Go.Fw
variable {ρ : Type}
open Go.Proofs
noncomputable def f18sig : Sig := ⟨[⟨.sl 3 (.int .i64), false, false⟩], [⟨.str, false, false⟩]⟩
noncomputable def e18 : Entry := ⟨f18sig, (some fun X => spec_FormatInts.P X.1), fun X => ((), ((spec_FormatInts.g X.1), ()))⟩
noncomputable def f18G : Gm := addG emptyG 17 e17
theorem f18GOk : GOk Tryd.prog f18G := (GOk.nil).add e17ok (by kernel_rfl)
noncomputable def f18lE : Clean := ⟨[], [], [], [], []⟩
noncomputable def f18s0 (v0 : LI) : St := initSt f18sig.ps (v0, ())
noncomputable def f18s1 (v0 : LI) : St := stOf [(0, .c (.sn 3 tI v0 none))] [] []
noncomputable def f18l1 : Clean := ⟨[0], [], [], [], []⟩
noncomputable def f18s2 (v0 : LI) (v3 : ByteArray) : St := stOf [(0, .c (.sn 3 tI v0 none)), (3, .c (.str v3))] [] []
noncomputable def f18l2 : Clean := ⟨[0, 3], [], [], [], []⟩
noncomputable def f18s3 (v0 : LI) (v3 : ByteArray) (v4 : Int) : St := stOf [(0, .c (.sn 3 tI v0 none)), (3, .c (.str v3)), (4, xi v4)] [] []
noncomputable def f18l3 : Clean := ⟨[0, 3, 4], [], [], [], []⟩
noncomputable def f18s4 (v3 : ByteArray) : St := stOf [(3, .c (.str v3))] [] []
noncomputable def f18l4 : Clean := ⟨[3], [], [], [], []⟩
noncomputable def f18s5 (v2 : ByteArray) : St := stOf [(2, .c (.str v2))] [] []
noncomputable def f18l5 : Clean := ⟨[2], [], [], [], []⟩
noncomputable def f18B : Nat → Option Clean := lookL [(0, f18l4), (1000000, f18l5)]
noncomputable abbrev f18i {ρ : Type} (N : Nat) (c : Code) (p : Plan) (σ : St) (K : KT ρ) : Option ρ := iCode f18G tab f18B N c p σ K
noncomputable def f18c (n : Nat) : Code := codeN 99 (bodyOf Tryd.f18) n
theorem f18t1 N v0 (K : KT ρ) : f18i N (f18c 2) .n (f18s0 v0) (joinK (some f18l1) K) =
  spec_FormatInts.Z1 N v0 (fun v0 => K .nrm (f18s1 v0)) := by kernel_rfl
theorem f18t3 N v0 (K : KT ρ) : f18i N (f18c 5) .n (f18s1 v0) (joinK (some f18l2) K) =
  spec_FormatInts.Z3 N v0 (fun v0 v3 => K .nrm (f18s2 v0 v3)) := by kernel_rfl
theorem f18t6 N v0 v3 (K : KT ρ) : f18i N (f18c 19) .n (f18s2 v0 v3) (joinK (some f18l3) K) =
  spec_FormatInts.Z6 N v0 v3 (fun v0 v3 v4 => K .nrm (f18s3 v0 v3 v4)) := by kernel_rfl
theorem f18t9 N v0 v3 v4 (K : KT ρ) : f18i N (f18c 75) .n (f18s3 v0 v3 v4) (joinK (some f18l3) K) =
  spec_FormatInts.Z9 N v0 v3 v4 (fun v0 v3 v4 => K .nrm (f18s3 v0 v3 v4)) (fun v3 => K (.exit 0) (f18s4 v3)) := by kernel_rfl
noncomputable def f18p8 : Plan := .mk none (some f18l3) .n .n
noncomputable abbrev f18w8 {ρ : Type} (N M : Nat) (σ : St) (K : KT ρ) : Option ρ := loopC (fun σ K => f18i N (f18c 75) .n σ K) f18l3 M σ K
theorem f18t8L {ρ : Type} (N : Nat) (K : KT ρ) : ∀ (M : Nat) (v0 : LI) (v3 : ByteArray) (v4 : Int), f18w8 N M (f18s3 v0 v3 v4) K =
  spec_FormatInts.Z8L N (fun v3 => K (.exit 0) (f18s4 v3)) M v0 v3 v4
  | 0, _, _, _ => rfl
  | M + 1, v0, v3, v4 => viaRoundS (fun k => spec_FormatInts.Z9 N v0 v3 v4 k (fun v3 => K (.exit 0) (f18s4 v3))) (f18t9 N (K := seqK (fun σ => f18w8 N M σ K) K) ..) (fx3 fun v0 v3 v4 => f18t8L N K M v0 v3 v4) (by kernel_rfl)
theorem f18t8 N v0 v3 v4 (K : KT ρ) : f18i N (f18c 43) f18p8 (f18s3 v0 v3 v4) (joinK (some f18l4) K) =
  spec_FormatInts.Z8 N v0 v3 v4 (fun v3 => K (.exit 0) (f18s4 v3)) :=
 viaLoopS (by kernel_rfl) (f18t8L N (joinK (some f18l4) K) N v0 v3 v4) (by kernel_rfl)
noncomputable def f18p7 : Plan := .mk (some f18l4) none f18p8 .n
theorem f18t7 N v0 v3 v4 (K : KT ρ) : f18i N (f18c 27) f18p7 (f18s3 v0 v3 v4) (joinK (some f18l4) K) =
  spec_FormatInts.Z7 N v0 v3 v4 (fun v3 => K .nrm (f18s4 v3)) :=
 viaBlockS (by kernel_rfl) (f18t8 N (K := blockK 0 (joinK (some f18l4) K)) ..) (by kernel_rfl)
noncomputable def f18p5 : Plan := .mk (some f18l3) none .n f18p7
theorem f18t5 N v0 v3 (K : KT ρ) : f18i N (f18c 11) f18p5 (f18s2 v0 v3) (joinK (some f18l4) K) =
  spec_FormatInts.Z5 N v0 v3 (fun v3 => K .nrm (f18s4 v3)) :=
 viaSeqS (fun k => spec_FormatInts.Z6 N v0 v3 k) (by kernel_rfl) (f18t6 N (K := seqK (fun σ => f18i N (f18c 27) f18p7 σ (joinK (some f18l4) K)) (joinK (some f18l4) K)) ..) (fx3 fun v0 v3 v4 => f18t7 N v0 v3 v4 K) (by kernel_rfl)
theorem f18t10 N v3 (K : KT ρ) : f18i N (f18c 15) .n (f18s4 v3) (joinK (some f18lE) K) =
  spec_FormatInts.Z10 N v3 (fun v2 => K .ret (f18s5 v2)) := by kernel_rfl
noncomputable def f18p4 : Plan := .mk (some f18l4) none f18p5 .n
theorem f18t4 N v0 v3 (K : KT ρ) : f18i N (f18c 7) f18p4 (f18s2 v0 v3) (joinK (some f18lE) K) =
  spec_FormatInts.Z4 N v0 v3 (fun v2 => K .ret (f18s5 v2)) :=
 viaSeqS (fun k => spec_FormatInts.Z5 N v0 v3 k) (by kernel_rfl) (f18t5 N (K := seqK (fun σ => f18i N (f18c 15) .n σ (joinK (some f18lE) K)) (joinK (some f18lE) K)) ..) (funext fun v3 => f18t10 N v3 K) (by kernel_rfl)
noncomputable def f18p2 : Plan := .mk (some f18l2) none .n f18p4
theorem f18t2 N v0 (K : KT ρ) : f18i N (f18c 3) f18p2 (f18s1 v0) (joinK (some f18lE) K) =
  spec_FormatInts.Z2 N v0 (fun v2 => K .ret (f18s5 v2)) :=
 viaSeqS (fun k => spec_FormatInts.Z3 N v0 k) (by kernel_rfl) (f18t3 N (K := seqK (fun σ => f18i N (f18c 7) f18p4 σ (joinK (some f18lE) K)) (joinK (some f18lE) K)) ..) (fx2 fun v0 v3 => f18t4 N v0 v3 K) (by kernel_rfl)
noncomputable def f18p0 : Plan := .mk (some f18l1) none .n f18p2
theorem f18t0 N v0 (K : KT ρ) : f18i N (f18c 1) f18p0 (f18s0 v0) (joinK (some f18lE) K) =
  spec_FormatInts.Z0 N v0 (fun v2 => K .ret (f18s5 v2)) :=
 viaSeqS (fun k => spec_FormatInts.Z1 N v0 k) (by kernel_rfl) (f18t1 N (K := seqK (fun σ => f18i N (f18c 3) f18p2 σ (joinK (some f18lE) K)) (joinK (some f18lE) K)) ..) (funext fun v0 => f18t2 N v0 K) (by kernel_rfl)
theorem f18m (N : Nat) (v0 : LI) : f18i N (f18c 1) f18p0 (f18s0 v0) (joinK (some f18lE) (finK tab f18sig Tryd.f18.results.toList)) = spec_FormatInts.Z0 N v0 (fun v2 => some ((), (v2, ()))) :=
  (f18t0 N v0 (finK tab f18sig Tryd.f18.results.toList)).trans (by kernel_rfl)
theorem f18ok (h : spec_FormatInts.Spec) : EntryOk Tryd.prog 18 e18 :=
  entry_of_code (sig := f18sig) (c := (f18c 1)) (pl := f18p0) (je := (some f18lE)) (B := f18B) Tryd.func18 (by kernel_rfl) (by kernel_rfl) (by kernel_rfl) tabOk f18GOk (by kernel_rfl) (by kernel_rfl) (by kernel_rfl) (by kernel_rfl) fun X hb hp => by
    obtain ⟨v0, _⟩ := X
    obtain ⟨N, h⟩ := h v0 hb.1 hp
    exact ⟨N, (f18m N v0).trans (h N (Nat.le_refl N))⟩
theorem e18ok : EntryOk Tryd.prog 18 e18 := f18ok spec_FormatInts.ok
end Go.Fw
namespace Go.Fw
variable {ρ : Type}
open Go.Proofs
noncomputable def f6sig : Sig := ⟨[⟨.pair (.int .i64) (.sl 46 (.pair (.sl 3 (.int .i64)) (.int .i64))), true, false⟩], [⟨.str, false, false⟩]⟩
noncomputable def e6 : Entry := ⟨f6sig, none, fun X => ((), ((spec_FormatLaurent.g X.1), ()))⟩
noncomputable def f6G : Gm := addG (addG (addG emptyG 16 e16) 17 e17) 18 e18
theorem f6GOk : GOk Tryd.prog f6G := (((GOk.nil).add e16ok (by kernel_rfl)).add e17ok (by kernel_rfl)).add e18ok (by kernel_rfl)
noncomputable def f6lE : Clean := ⟨[], [], [], [], []⟩
noncomputable def f6s0 (v0 : Int × List (LI × Int)) : St := initSt f6sig.ps (v0, ())
noncomputable def f6s1 (v1_0 : Int) (v1_1 : List (LI × Int)) : St := stOf [(1, xb 1)] [(1, (29, [yi v1_0, .sn 46 (.pair (.sl 3 tI) tI) v1_1 none]))] []
noncomputable def f6l1 : Clean := ⟨[1], [1], [], [], []⟩
noncomputable def f6s2 (v3 : ByteArray) (v1_0 : Int) (v1_1 : List (LI × Int)) : St := stOf [(1, xb 1), (3, .c (.str v3))] [(1, (29, [yi v1_0, .sn 46 (.pair (.sl 3 tI) tI) v1_1 none]))] []
noncomputable def f6l2 : Clean := ⟨[1, 3], [1], [], [], []⟩
noncomputable def f6s3 (v3 : ByteArray) (v4 v1_0 : Int) (v1_1 : List (LI × Int)) : St := stOf [(1, xb 1), (3, .c (.str v3)), (4, xi v4)] [(1, (29, [yi v1_0, .sn 46 (.pair (.sl 3 tI) tI) v1_1 none]))] []
noncomputable def f6l3 : Clean := ⟨[1, 3, 4], [1], [], [], []⟩
noncomputable def f6s4 (v3 : ByteArray) : St := stOf [(3, .c (.str v3))] [] []
noncomputable def f6l4 : Clean := ⟨[3], [], [], [], []⟩
noncomputable def f6s5 (v2 : ByteArray) : St := stOf [(2, .c (.str v2))] [] []
noncomputable def f6l5 : Clean := ⟨[2], [], [], [], []⟩
noncomputable def f6B : Nat → Option Clean := lookL [(0, f6l4), (1000000, f6l5)]
noncomputable abbrev f6i {ρ : Type} (N : Nat) (c : Code) (p : Plan) (σ : St) (K : KT ρ) : Option ρ := iCode f6G tab f6B N c p σ K
noncomputable def f6c (n : Nat) : Code := codeN 99 (bodyOf Tryd.f6) n
theorem f6t1 N v0 (K : KT ρ) : f6i N (f6c 2) .n (f6s0 v0) (joinK (some f6l1) K) =
  spec_FormatLaurent.Z1 N v0 (fun v1_0 v1_1 => K .nrm (f6s1 v1_0 v1_1)) := by kernel_rfl
theorem f6t3 N v1_0 v1_1 (K : KT ρ) : f6i N (f6c 5) .n (f6s1 v1_0 v1_1) (joinK (some f6l1) K) =
  spec_FormatLaurent.Z3 N v1_0 v1_1 (fun v1_0 v1_1 => K .nrm (f6s1 v1_0 v1_1)) (fun v2 => K .ret (f6s5 v2)) := by kernel_rfl
theorem f6t5 N v1_0 v1_1 (K : KT ρ) : f6i N (f6c 11) .n (f6s1 v1_0 v1_1) (joinK (some f6l2) K) =
  spec_FormatLaurent.Z5 N v1_0 v1_1 (fun v3 v1_0 v1_1 => K .nrm (f6s2 v3 v1_0 v1_1)) := by kernel_rfl
theorem f6t7 N v3 v1_0 v1_1 (K : KT ρ) : f6i N (f6c 23) .n (f6s2 v3 v1_0 v1_1) (joinK (some f6l2) K) =
  spec_FormatLaurent.Z7 N v3 v1_0 v1_1 (fun v3 v1_0 v1_1 => K .nrm (f6s2 v3 v1_0 v1_1)) (fun v2 => K .ret (f6s5 v2)) := by kernel_rfl
theorem f6t10 N v3 v1_0 v1_1 (K : KT ρ) : f6i N (f6c 79) .n (f6s2 v3 v1_0 v1_1) (joinK (some f6l3) K) =
  spec_FormatLaurent.Z10 N v3 v1_0 v1_1 (fun v3 v4 v1_0 v1_1 => K .nrm (f6s3 v3 v4 v1_0 v1_1)) := by kernel_rfl
theorem f6t13 N v3 v4 v1_0 v1_1 (K : KT ρ) : f6i N (f6c 303) .n (f6s3 v3 v4 v1_0 v1_1) (joinK (some f6l3) K) =
  spec_FormatLaurent.Z13 N v3 v4 v1_0 v1_1 (fun v3 v4 v1_0 v1_1 => K .nrm (f6s3 v3 v4 v1_0 v1_1)) (fun v3 => K (.exit 0) (f6s4 v3)) := by kernel_rfl
noncomputable def f6p12 : Plan := .mk none (some f6l3) .n .n
noncomputable abbrev f6w12 {ρ : Type} (N M : Nat) (σ : St) (K : KT ρ) : Option ρ := loopC (fun σ K => f6i N (f6c 303) .n σ K) f6l3 M σ K
theorem f6t12L {ρ : Type} (N : Nat) (K : KT ρ) : ∀ (M : Nat) (v3 : ByteArray) (v4 v1_0 : Int) (v1_1 : List (LI × Int)), f6w12 N M (f6s3 v3 v4 v1_0 v1_1) K =
  spec_FormatLaurent.Z12L N (fun v3 => K (.exit 0) (f6s4 v3)) M v3 v4 v1_0 v1_1
  | 0, _, _, _, _ => rfl
  | M + 1, v3, v4, v1_0, v1_1 => viaRoundS (fun k => spec_FormatLaurent.Z13 N v3 v4 v1_0 v1_1 k (fun v3 => K (.exit 0) (f6s4 v3))) (f6t13 N (K := seqK (fun σ => f6w12 N M σ K) K) ..) (fx4 fun v3 v4 v1_0 v1_1 => f6t12L N K M v3 v4 v1_0 v1_1) (by kernel_rfl)
theorem f6t12 N v3 v4 v1_0 v1_1 (K : KT ρ) : f6i N (f6c 175) f6p12 (f6s3 v3 v4 v1_0 v1_1) (joinK (some f6l4) K) =
  spec_FormatLaurent.Z12 N v3 v4 v1_0 v1_1 (fun v3 => K (.exit 0) (f6s4 v3)) :=
 viaLoopS (by kernel_rfl) (f6t12L N (joinK (some f6l4) K) N v3 v4 v1_0 v1_1) (by kernel_rfl)
noncomputable def f6p11 : Plan := .mk (some f6l4) none f6p12 .n
theorem f6t11 N v3 v4 v1_0 v1_1 (K : KT ρ) : f6i N (f6c 111) f6p11 (f6s3 v3 v4 v1_0 v1_1) (joinK (some f6l4) K) =
  spec_FormatLaurent.Z11 N v3 v4 v1_0 v1_1 (fun v3 => K .nrm (f6s4 v3)) :=
 viaBlockS (by kernel_rfl) (f6t12 N (K := blockK 0 (joinK (some f6l4) K)) ..) (by kernel_rfl)
noncomputable def f6p9 : Plan := .mk (some f6l3) none .n f6p11
theorem f6t9 N v3 v1_0 v1_1 (K : KT ρ) : f6i N (f6c 47) f6p9 (f6s2 v3 v1_0 v1_1) (joinK (some f6l4) K) =
  spec_FormatLaurent.Z9 N v3 v1_0 v1_1 (fun v3 => K .nrm (f6s4 v3)) :=
 viaSeqS (fun k => spec_FormatLaurent.Z10 N v3 v1_0 v1_1 k) (by kernel_rfl) (f6t10 N (K := seqK (fun σ => f6i N (f6c 111) f6p11 σ (joinK (some f6l4) K)) (joinK (some f6l4) K)) ..) (fx4 fun v3 v4 v1_0 v1_1 => f6t11 N v3 v4 v1_0 v1_1 K) (by kernel_rfl)
theorem f6t14 N v3 (K : KT ρ) : f6i N (f6c 63) .n (f6s4 v3) (joinK (some f6lE) K) =
  spec_FormatLaurent.Z14 N v3 (fun v2 => K .ret (f6s5 v2)) := by kernel_rfl
noncomputable def f6p8 : Plan := .mk (some f6l4) none f6p9 .n
theorem f6t8 N v3 v1_0 v1_1 (K : KT ρ) : f6i N (f6c 31) f6p8 (f6s2 v3 v1_0 v1_1) (joinK (some f6lE) K) =
  spec_FormatLaurent.Z8 N v3 v1_0 v1_1 (fun v2 => K .ret (f6s5 v2)) :=
 viaSeqS (fun k => spec_FormatLaurent.Z9 N v3 v1_0 v1_1 k) (by kernel_rfl) (f6t9 N (K := seqK (fun σ => f6i N (f6c 63) .n σ (joinK (some f6lE) K)) (joinK (some f6lE) K)) ..) (funext fun v3 => f6t14 N v3 K) (by kernel_rfl)
noncomputable def f6p6 : Plan := .mk (some f6l2) none .n f6p8
theorem f6t6 N v3 v1_0 v1_1 (K : KT ρ) : f6i N (f6c 15) f6p6 (f6s2 v3 v1_0 v1_1) (joinK (some f6lE) K) =
  spec_FormatLaurent.Z6 N v3 v1_0 v1_1 (fun v2 => K .ret (f6s5 v2)) :=
 viaSeqS (fun k => spec_FormatLaurent.Z7 N v3 v1_0 v1_1 k (fun v2 => K .ret (f6s5 v2))) (by kernel_rfl) (f6t7 N (K := seqK (fun σ => f6i N (f6c 31) f6p8 σ (joinK (some f6lE) K)) (joinK (some f6lE) K)) ..) (fx3 fun v3 v1_0 v1_1 => f6t8 N v3 v1_0 v1_1 K) (by kernel_rfl)
noncomputable def f6p4 : Plan := .mk (some f6l2) none .n f6p6
theorem f6t4 N v1_0 v1_1 (K : KT ρ) : f6i N (f6c 7) f6p4 (f6s1 v1_0 v1_1) (joinK (some f6lE) K) =
  spec_FormatLaurent.Z4 N v1_0 v1_1 (fun v2 => K .ret (f6s5 v2)) :=
 viaSeqS (fun k => spec_FormatLaurent.Z5 N v1_0 v1_1 k) (by kernel_rfl) (f6t5 N (K := seqK (fun σ => f6i N (f6c 15) f6p6 σ (joinK (some f6lE) K)) (joinK (some f6lE) K)) ..) (fx3 fun v3 v1_0 v1_1 => f6t6 N v3 v1_0 v1_1 K) (by kernel_rfl)
noncomputable def f6p2 : Plan := .mk (some f6l1) none .n f6p4
theorem f6t2 N v1_0 v1_1 (K : KT ρ) : f6i N (f6c 3) f6p2 (f6s1 v1_0 v1_1) (joinK (some f6lE) K) =
  spec_FormatLaurent.Z2 N v1_0 v1_1 (fun v2 => K .ret (f6s5 v2)) :=
 viaSeqS (fun k => spec_FormatLaurent.Z3 N v1_0 v1_1 k (fun v2 => K .ret (f6s5 v2))) (by kernel_rfl) (f6t3 N (K := seqK (fun σ => f6i N (f6c 7) f6p4 σ (joinK (some f6lE) K)) (joinK (some f6lE) K)) ..) (fx2 fun v1_0 v1_1 => f6t4 N v1_0 v1_1 K) (by kernel_rfl)
noncomputable def f6p0 : Plan := .mk (some f6l1) none .n f6p2
theorem f6t0 N v0 (K : KT ρ) : f6i N (f6c 1) f6p0 (f6s0 v0) (joinK (some f6lE) K) =
  spec_FormatLaurent.Z0 N v0 (fun v2 => K .ret (f6s5 v2)) :=
 viaSeqS (fun k => spec_FormatLaurent.Z1 N v0 k) (by kernel_rfl) (f6t1 N (K := seqK (fun σ => f6i N (f6c 3) f6p2 σ (joinK (some f6lE) K)) (joinK (some f6lE) K)) ..) (fx2 fun v1_0 v1_1 => f6t2 N v1_0 v1_1 K) (by kernel_rfl)
theorem f6m (N : Nat) (v0 : Int × List (LI × Int)) : f6i N (f6c 1) f6p0 (f6s0 v0) (joinK (some f6lE) (finK tab f6sig Tryd.f6.results.toList)) = spec_FormatLaurent.Z0 N v0 (fun v2 => some ((), (v2, ()))) :=
  (f6t0 N v0 (finK tab f6sig Tryd.f6.results.toList)).trans (by kernel_rfl)
theorem f6ok (h : spec_FormatLaurent.Spec) : EntryOk Tryd.prog 6 e6 :=
  entry_of_code (sig := f6sig) (c := (f6c 1)) (pl := f6p0) (je := (some f6lE)) (B := f6B) Tryd.func6 (by kernel_rfl) (by kernel_rfl) (by kernel_rfl) tabOk f6GOk (by kernel_rfl) (by kernel_rfl) (by kernel_rfl) (by kernel_rfl) fun X hb hp => by
    obtain ⟨v0, _⟩ := X
    obtain ⟨N, h⟩ := h v0 hb.1
    exact ⟨N, (f6m N v0).trans (h N (Nat.le_refl N))⟩
theorem e6ok : EntryOk Tryd.prog 6 e6 := f6ok spec_FormatLaurent.ok
end Go.Fw
namespace Go.Fw
variable {ρ : Type}
open Go.Proofs
noncomputable def f35sig : Sig := ⟨[⟨.int .i64, false, false⟩, ⟨.int .i64, false, false⟩, ⟨.int .i64, false, false⟩], [⟨.bool, false, false⟩]⟩
noncomputable def e35 : Entry := ⟨f35sig, none, fun X => ((), ((impl_within.g X.1 X.2.1 X.2.2.1), ()))⟩
noncomputable def f35G : Gm := emptyG
theorem f35GOk : GOk Tryd.prog f35G := GOk.nil
noncomputable def f35lE : Clean := ⟨[], [], [], [], []⟩
noncomputable def f35s0 (v0 v1 v2 : Int) : St := initSt f35sig.ps (v0, (v1, (v2, ())))
noncomputable def f35s1 (v6 : Bool) : St := stOf [(6, xB v6)] [] []
noncomputable def f35l1 : Clean := ⟨[6], [], [], [], []⟩
noncomputable def f35B : Nat → Option Clean := lookL [(1000000, f35l1)]
noncomputable abbrev f35i {ρ : Type} (N : Nat) (c : Code) (p : Plan) (σ : St) (K : KT ρ) : Option ρ := iCode f35G tab f35B N c p σ K
noncomputable def f35c (n : Nat) : Code := codeN 99 (bodyOf Tryd.f35) n
theorem f35t0 N v0 v1 v2 (K : KT ρ) : f35i N (f35c 1) .n (f35s0 v0 v1 v2) (joinK (some f35lE) K) =
  impl_within.Z0 N v0 v1 v2 (fun v6 => K .ret (f35s1 v6)) := by kernel_rfl
theorem f35m (N : Nat) (v0 v1 v2 : Int) : f35i N (f35c 1) .n (f35s0 v0 v1 v2) (joinK (some f35lE) (finK tab f35sig Tryd.f35.results.toList)) = impl_within.Z0 N v0 v1 v2 (fun v6 => some ((), (v6, ()))) :=
  (f35t0 N v0 v1 v2 (finK tab f35sig Tryd.f35.results.toList)).trans (by kernel_rfl)
theorem f35ok (h : impl_within.Spec) : EntryOk Tryd.prog 35 e35 :=
  entry_of_code (sig := f35sig) (c := (f35c 1)) (pl := .n) (je := (some f35lE)) (B := f35B) Tryd.func35 (by kernel_rfl) (by kernel_rfl) (by kernel_rfl) tabOk f35GOk (by kernel_rfl) (by kernel_rfl) (by kernel_rfl) (by kernel_rfl) fun X hb hp => by
    obtain ⟨v0, v1, v2, _⟩ := X
    obtain ⟨N, h⟩ := h v0 v1 v2
    exact ⟨N, (f35m N v0 v1 v2).trans (h N (Nat.le_refl N))⟩
theorem e35ok : EntryOk Tryd.prog 35 e35 := f35ok impl_within.ok
end Go.Fw
namespace Go.Fw
variable {ρ : Type}
open Go.Proofs
noncomputable def f49sig : Sig := ⟨[⟨.int .i64, false, false⟩], [⟨.bool, false, false⟩]⟩
noncomputable def e49 : Entry := ⟨f49sig, none, fun X => ((), ((impl_expOk_1.g X.1), ()))⟩
noncomputable def f49G : Gm := addG emptyG 35 e35
theorem f49GOk : GOk Tryd.prog f49G := (GOk.nil).add e35ok (by kernel_rfl)
noncomputable def f49lE : Clean := ⟨[], [], [], [], []⟩
noncomputable def f49s0 (v0 : Int) : St := initSt f49sig.ps (v0, ())
noncomputable def f49s1 (v2 : Bool) : St := stOf [(2, xB v2)] [] []
noncomputable def f49l1 : Clean := ⟨[2], [], [], [], []⟩
noncomputable def f49B : Nat → Option Clean := lookL [(1000000, f49l1)]
noncomputable abbrev f49i {ρ : Type} (N : Nat) (c : Code) (p : Plan) (σ : St) (K : KT ρ) : Option ρ := iCode f49G tab f49B N c p σ K
noncomputable def f49c (n : Nat) : Code := codeN 99 (bodyOf Tryd.f49) n
theorem f49t0 N v0 (K : KT ρ) : f49i N (f49c 1) .n (f49s0 v0) (joinK (some f49lE) K) =
  impl_expOk_1.Z0 N v0 (fun v2 => K .ret (f49s1 v2)) := by kernel_rfl
theorem f49m (N : Nat) (v0 : Int) : f49i N (f49c 1) .n (f49s0 v0) (joinK (some f49lE) (finK tab f49sig Tryd.f49.results.toList)) = impl_expOk_1.Z0 N v0 (fun v2 => some ((), (v2, ()))) :=
  (f49t0 N v0 (finK tab f49sig Tryd.f49.results.toList)).trans (by kernel_rfl)
theorem f49ok (h : impl_expOk_1.Spec) : EntryOk Tryd.prog 49 e49 :=
  entry_of_code (sig := f49sig) (c := (f49c 1)) (pl := .n) (je := (some f49lE)) (B := f49B) Tryd.func49 (by kernel_rfl) (by kernel_rfl) (by kernel_rfl) tabOk f49GOk (by kernel_rfl) (by kernel_rfl) (by kernel_rfl) (by kernel_rfl) fun X hb hp => by
    obtain ⟨v0, _⟩ := X
    obtain ⟨N, h⟩ := h v0
    exact ⟨N, (f49m N v0).trans (h N (Nat.le_refl N))⟩
theorem e49ok : EntryOk Tryd.prog 49 e49 := f49ok impl_expOk_1.ok
end Go.Fw
namespace Go.Fw
variable {ρ : Type}
open Go.Proofs
noncomputable def f61sig : Sig := ⟨[⟨.sl 3 (.int .i64), false, false⟩, ⟨.fnc 49, false, false⟩], [⟨.int .i64, false, false⟩]⟩
noncomputable def e61 : Entry := ⟨f61sig, none, fun X => ((), ((slices_IndexFunc_int_int_expOk.g X.1 X.2.1), ()))⟩
noncomputable def f61G : Gm := addG emptyG 49 e49
theorem f61GOk : GOk Tryd.prog f61G := (GOk.nil).add e49ok (by kernel_rfl)
noncomputable def f61lE : Clean := ⟨[], [], [], [], []⟩
noncomputable def f61s0 (v0 : LI) (v1 : Unit) : St := initSt f61sig.ps (v0, (v1, ()))
noncomputable def f61s1 (v0 : LI) : St := stOf [(0, .c (.sn 3 tI v0 none)), (1, .c (.fn 49 []))] [] []
noncomputable def f61l1 : Clean := ⟨[0, 1], [], [], [], []⟩
noncomputable def f61s2 (v0 : LI) (v7 v8 : Int) : St := stOf [(0, .c (.sn 3 tI v0 none)), (1, .c (.fn 49 [])), (7, xi v7), (8, xi v8)] [] []
noncomputable def f61l2 : Clean := ⟨[0, 1, 7, 8], [], [], [], []⟩
noncomputable def f61s3  : St := stOf [] [] []
noncomputable def f61l3 : Clean := ⟨[], [], [], [], []⟩
noncomputable def f61s4 (v4 : Int) : St := stOf [(4, xi v4)] [] []
noncomputable def f61l4 : Clean := ⟨[4], [], [], [], []⟩
noncomputable def f61B : Nat → Option Clean := lookL [(0, f61l3), (1000000, f61l4)]
noncomputable abbrev f61i {ρ : Type} (N : Nat) (c : Code) (p : Plan) (σ : St) (K : KT ρ) : Option ρ := iCode f61G tab f61B N c p σ K
noncomputable def f61c (n : Nat) : Code := codeN 99 (bodyOf Tryd.f61) n
theorem f61t1 N v0 v1 (K : KT ρ) : f61i N (f61c 2) .n (f61s0 v0 v1) (joinK (some f61l1) K) =
  slices_IndexFunc_int_int_expOk.Z1 N v0 v1 (fun v0 => K .nrm (f61s1 v0)) := by kernel_rfl
theorem f61t4 N v0 (K : KT ρ) : f61i N (f61c 9) .n (f61s1 v0) (joinK (some f61l2) K) =
  slices_IndexFunc_int_int_expOk.Z4 N v0 (fun v0 v7 v8 => K .nrm (f61s2 v0 v7 v8)) := by kernel_rfl
theorem f61t7 N v0 v7 v8 (K : KT ρ) : f61i N (f61c 37) .n (f61s2 v0 v7 v8) (joinK (some f61l2) K) =
  slices_IndexFunc_int_int_expOk.Z7 N v0 v7 v8 (fun v0 v7 v8 => K .nrm (f61s2 v0 v7 v8)) (K (.exit 0) f61s3) (fun v4 => K .ret (f61s4 v4)) := by kernel_rfl
noncomputable def f61p6 : Plan := .mk none (some f61l2) .n .n
noncomputable abbrev f61w6 {ρ : Type} (N M : Nat) (σ : St) (K : KT ρ) : Option ρ := loopC (fun σ K => f61i N (f61c 37) .n σ K) f61l2 M σ K
theorem f61t6L {ρ : Type} (N : Nat) (K : KT ρ) : ∀ (M : Nat) (v0 : LI) (v7 v8 : Int), f61w6 N M (f61s2 v0 v7 v8) K =
  slices_IndexFunc_int_int_expOk.Z6L N (K (.exit 0) f61s3) (fun v4 => K .ret (f61s4 v4)) M v0 v7 v8
  | 0, _, _, _ => rfl
  | M + 1, v0, v7, v8 => viaRoundS (fun k => slices_IndexFunc_int_int_expOk.Z7 N v0 v7 v8 k (K (.exit 0) f61s3) (fun v4 => K .ret (f61s4 v4))) (f61t7 N (K := seqK (fun σ => f61w6 N M σ K) K) ..) (fx3 fun v0 v7 v8 => f61t6L N K M v0 v7 v8) (by kernel_rfl)
theorem f61t6 N v0 v7 v8 (K : KT ρ) : f61i N (f61c 21) f61p6 (f61s2 v0 v7 v8) (joinK (some f61l3) K) =
  slices_IndexFunc_int_int_expOk.Z6 N v0 v7 v8 (K (.exit 0) f61s3) (fun v4 => K .ret (f61s4 v4)) :=
 viaLoopS (by kernel_rfl) (f61t6L N (joinK (some f61l3) K) N v0 v7 v8) (by kernel_rfl)
noncomputable def f61p5 : Plan := .mk (some f61l3) none f61p6 .n
theorem f61t5 N v0 v7 v8 (K : KT ρ) : f61i N (f61c 13) f61p5 (f61s2 v0 v7 v8) (joinK (some f61l3) K) =
  slices_IndexFunc_int_int_expOk.Z5 N v0 v7 v8 (K .nrm f61s3) (fun v4 => K .ret (f61s4 v4)) :=
 viaBlockS (by kernel_rfl) (f61t6 N (K := blockK 0 (joinK (some f61l3) K)) ..) (by kernel_rfl)
noncomputable def f61p3 : Plan := .mk (some f61l2) none .n f61p5
theorem f61t3 N v0 (K : KT ρ) : f61i N (f61c 5) f61p3 (f61s1 v0) (joinK (some f61l3) K) =
  slices_IndexFunc_int_int_expOk.Z3 N v0 (K .nrm f61s3) (fun v4 => K .ret (f61s4 v4)) :=
 viaSeqS (fun k => slices_IndexFunc_int_int_expOk.Z4 N v0 k) (by kernel_rfl) (f61t4 N (K := seqK (fun σ => f61i N (f61c 13) f61p5 σ (joinK (some f61l3) K)) (joinK (some f61l3) K)) ..) (fx3 fun v0 v7 v8 => f61t5 N v0 v7 v8 K) (by kernel_rfl)
theorem f61t8 N  (K : KT ρ) : f61i N (f61c 7) .n f61s3 (joinK (some f61lE) K) =
  slices_IndexFunc_int_int_expOk.Z8 N (fun v4 => K .ret (f61s4 v4)) := by kernel_rfl
noncomputable def f61p2 : Plan := .mk (some f61l3) none f61p3 .n
theorem f61t2 N v0 (K : KT ρ) : f61i N (f61c 3) f61p2 (f61s1 v0) (joinK (some f61lE) K) =
  slices_IndexFunc_int_int_expOk.Z2 N v0 (fun v4 => K .ret (f61s4 v4)) :=
 viaSeqS (fun k => slices_IndexFunc_int_int_expOk.Z3 N v0 k (fun v4 => K .ret (f61s4 v4))) (by kernel_rfl) (f61t3 N (K := seqK (fun σ => f61i N (f61c 7) .n σ (joinK (some f61lE) K)) (joinK (some f61lE) K)) ..) (f61t8 N K) (by kernel_rfl)
noncomputable def f61p0 : Plan := .mk (some f61l1) none .n f61p2
theorem f61t0 N v0 v1 (K : KT ρ) : f61i N (f61c 1) f61p0 (f61s0 v0 v1) (joinK (some f61lE) K) =
  slices_IndexFunc_int_int_expOk.Z0 N v0 v1 (fun v4 => K .ret (f61s4 v4)) :=
 viaSeqS (fun k => slices_IndexFunc_int_int_expOk.Z1 N v0 v1 k) (by kernel_rfl) (f61t1 N (K := seqK (fun σ => f61i N (f61c 3) f61p2 σ (joinK (some f61lE) K)) (joinK (some f61lE) K)) ..) (funext fun v0 => f61t2 N v0 K) (by kernel_rfl)
theorem f61m (N : Nat) (v0 : LI) (v1 : Unit) : f61i N (f61c 1) f61p0 (f61s0 v0 v1) (joinK (some f61lE) (finK tab f61sig Tryd.f61.results.toList)) = slices_IndexFunc_int_int_expOk.Z0 N v0 v1 (fun v4 => some ((), (v4, ()))) :=
  (f61t0 N v0 v1 (finK tab f61sig Tryd.f61.results.toList)).trans (by kernel_rfl)
theorem f61ok (h : slices_IndexFunc_int_int_expOk.Spec) : EntryOk Tryd.prog 61 e61 :=
  entry_of_code (sig := f61sig) (c := (f61c 1)) (pl := f61p0) (je := (some f61lE)) (B := f61B) Tryd.func61 (by kernel_rfl) (by kernel_rfl) (by kernel_rfl) tabOk f61GOk (by kernel_rfl) (by kernel_rfl) (by kernel_rfl) (by kernel_rfl) fun X hb hp => by
    obtain ⟨v0, v1, _⟩ := X
    obtain ⟨N, h⟩ := h v0 v1 hb.1
    exact ⟨N, (f61m N v0 v1).trans (h N (Nat.le_refl N))⟩
theorem e61ok : EntryOk Tryd.prog 61 e61 := f61ok slices_IndexFunc_int_int_expOk.ok
end Go.Fw
namespace Go.Fw
variable {ρ : Type}
open Go.Proofs
noncomputable def f48sig : Sig := ⟨[⟨.sl 3 (.int .i64), false, false⟩, ⟨.fnc 49, false, false⟩], [⟨.bool, false, false⟩]⟩
noncomputable def e48 : Entry := ⟨f48sig, none, fun X => ((), ((slices_ContainsFunc_int_int_expOk.g X.1 X.2.1), ()))⟩
noncomputable def f48G : Gm := addG emptyG 61 e61
theorem f48GOk : GOk Tryd.prog f48G := (GOk.nil).add e61ok (by kernel_rfl)
noncomputable def f48lE : Clean := ⟨[], [], [], [], []⟩
noncomputable def f48s0 (v0 : LI) (v1 : Unit) : St := initSt f48sig.ps (v0, (v1, ()))
noncomputable def f48s1 (v4 : Bool) : St := stOf [(4, xB v4)] [] []
noncomputable def f48l1 : Clean := ⟨[4], [], [], [], []⟩
noncomputable def f48B : Nat → Option Clean := lookL [(1000000, f48l1)]
noncomputable abbrev f48i {ρ : Type} (N : Nat) (c : Code) (p : Plan) (σ : St) (K : KT ρ) : Option ρ := iCode f48G tab f48B N c p σ K
noncomputable def f48c (n : Nat) : Code := codeN 99 (bodyOf Tryd.f48) n
theorem f48t0 N v0 v1 (K : KT ρ) : f48i N (f48c 1) .n (f48s0 v0 v1) (joinK (some f48lE) K) =
  slices_ContainsFunc_int_int_expOk.Z0 N v0 v1 (fun v4 => K .ret (f48s1 v4)) := by kernel_rfl
theorem f48m (N : Nat) (v0 : LI) (v1 : Unit) : f48i N (f48c 1) .n (f48s0 v0 v1) (joinK (some f48lE) (finK tab f48sig Tryd.f48.results.toList)) = slices_ContainsFunc_int_int_expOk.Z0 N v0 v1 (fun v4 => some ((), (v4, ()))) :=
  (f48t0 N v0 v1 (finK tab f48sig Tryd.f48.results.toList)).trans (by kernel_rfl)
theorem f48ok (h : slices_ContainsFunc_int_int_expOk.Spec) : EntryOk Tryd.prog 48 e48 :=
  entry_of_code (sig := f48sig) (c := (f48c 1)) (pl := .n) (je := (some f48lE)) (B := f48B) Tryd.func48 (by kernel_rfl) (by kernel_rfl) (by kernel_rfl) tabOk f48GOk (by kernel_rfl) (by kernel_rfl) (by kernel_rfl) (by kernel_rfl) fun X hb hp => by
    obtain ⟨v0, v1, _⟩ := X
    obtain ⟨N, h⟩ := h v0 v1 hb.1
    exact ⟨N, (f48m N v0 v1).trans (h N (Nat.le_refl N))⟩
theorem e48ok : EntryOk Tryd.prog 48 e48 := f48ok slices_ContainsFunc_int_int_expOk.ok
end Go.Fw
namespace Go.Fw
variable {ρ : Type}
open Go.Proofs
noncomputable def f36sig : Sig := ⟨[⟨.sl 3 (.int .i64), false, false⟩, ⟨.int .i64, false, false⟩], [⟨.bool, false, false⟩]⟩
noncomputable def e36 : Entry := ⟨f36sig, none, fun X => ((), ((impl_expOk.g X.1 X.2.1), ()))⟩
noncomputable def f36G : Gm := addG emptyG 48 e48
theorem f36GOk : GOk Tryd.prog f36G := (GOk.nil).add e48ok (by kernel_rfl)
noncomputable def f36lE : Clean := ⟨[], [], [], [], []⟩
noncomputable def f36s0 (v0 : LI) (v1 : Int) : St := initSt f36sig.ps (v0, (v1, ()))
noncomputable def f36s1 (v4 : Bool) : St := stOf [(4, xB v4)] [] []
noncomputable def f36l1 : Clean := ⟨[4], [], [], [], []⟩
noncomputable def f36B : Nat → Option Clean := lookL [(1000000, f36l1)]
noncomputable abbrev f36i {ρ : Type} (N : Nat) (c : Code) (p : Plan) (σ : St) (K : KT ρ) : Option ρ := iCode f36G tab f36B N c p σ K
noncomputable def f36c (n : Nat) : Code := codeN 99 (bodyOf Tryd.f36) n
theorem f36t0 N v0 v1 (K : KT ρ) : f36i N (f36c 1) .n (f36s0 v0 v1) (joinK (some f36lE) K) =
  impl_expOk.Z0 N v0 v1 (fun v4 => K .ret (f36s1 v4)) := by kernel_rfl
theorem f36m (N : Nat) (v0 : LI) (v1 : Int) : f36i N (f36c 1) .n (f36s0 v0 v1) (joinK (some f36lE) (finK tab f36sig Tryd.f36.results.toList)) = impl_expOk.Z0 N v0 v1 (fun v4 => some ((), (v4, ()))) :=
  (f36t0 N v0 v1 (finK tab f36sig Tryd.f36.results.toList)).trans (by kernel_rfl)
theorem f36ok (h : impl_expOk.Spec) : EntryOk Tryd.prog 36 e36 :=
  entry_of_code (sig := f36sig) (c := (f36c 1)) (pl := .n) (je := (some f36lE)) (B := f36B) Tryd.func36 (by kernel_rfl) (by kernel_rfl) (by kernel_rfl) tabOk f36GOk (by kernel_rfl) (by kernel_rfl) (by kernel_rfl) (by kernel_rfl) fun X hb hp => by
    obtain ⟨v0, v1, _⟩ := X
    obtain ⟨N, h⟩ := h v0 v1 hb.1
    exact ⟨N, (f36m N v0 v1).trans (h N (Nat.le_refl N))⟩
theorem e36ok : EntryOk Tryd.prog 36 e36 := f36ok impl_expOk.ok
end Go.Fw
namespace Go.Fw
variable {ρ : Type}
open Go.Proofs
noncomputable def f37sig : Sig := ⟨[⟨.int .i64, false, false⟩], [⟨.bool, false, false⟩]⟩
noncomputable def e37 : Entry := ⟨f37sig, none, fun X => ((), ((impl_coefOk.g X.1), ()))⟩
noncomputable def f37G : Gm := addG emptyG 35 e35
theorem f37GOk : GOk Tryd.prog f37G := (GOk.nil).add e35ok (by kernel_rfl)
noncomputable def f37lE : Clean := ⟨[], [], [], [], []⟩
noncomputable def f37s0 (v0 : Int) : St := initSt f37sig.ps (v0, ())
noncomputable def f37s1 (v2 : Bool) : St := stOf [(2, xB v2)] [] []
noncomputable def f37l1 : Clean := ⟨[2], [], [], [], []⟩
noncomputable def f37B : Nat → Option Clean := lookL [(1000000, f37l1)]
noncomputable abbrev f37i {ρ : Type} (N : Nat) (c : Code) (p : Plan) (σ : St) (K : KT ρ) : Option ρ := iCode f37G tab f37B N c p σ K
noncomputable def f37c (n : Nat) : Code := codeN 99 (bodyOf Tryd.f37) n
theorem f37t0 N v0 (K : KT ρ) : f37i N (f37c 1) .n (f37s0 v0) (joinK (some f37lE) K) =
  impl_coefOk.Z0 N v0 (fun v2 => K .ret (f37s1 v2)) := by kernel_rfl
theorem f37m (N : Nat) (v0 : Int) : f37i N (f37c 1) .n (f37s0 v0) (joinK (some f37lE) (finK tab f37sig Tryd.f37.results.toList)) = impl_coefOk.Z0 N v0 (fun v2 => some ((), (v2, ()))) :=
  (f37t0 N v0 (finK tab f37sig Tryd.f37.results.toList)).trans (by kernel_rfl)
theorem f37ok (h : impl_coefOk.Spec) : EntryOk Tryd.prog 37 e37 :=
  entry_of_code (sig := f37sig) (c := (f37c 1)) (pl := .n) (je := (some f37lE)) (B := f37B) Tryd.func37 (by kernel_rfl) (by kernel_rfl) (by kernel_rfl) tabOk f37GOk (by kernel_rfl) (by kernel_rfl) (by kernel_rfl) (by kernel_rfl) fun X hb hp => by
    obtain ⟨v0, _⟩ := X
    obtain ⟨N, h⟩ := h v0
    exact ⟨N, (f37m N v0).trans (h N (Nat.le_refl N))⟩
theorem e37ok : EntryOk Tryd.prog 37 e37 := f37ok impl_coefOk.ok
end Go.Fw
namespace Go.Fw
variable {ρ : Type}
open Go.Proofs
noncomputable def f62sig : Sig := ⟨[⟨.int .i64, false, false⟩], [⟨.bool, false, false⟩]⟩
noncomputable def e62 : Entry := ⟨f62sig, none, fun X => ((), ((cmp_isNaN_int.g X.1), ()))⟩
noncomputable def f62G : Gm := emptyG
theorem f62GOk : GOk Tryd.prog f62G := GOk.nil
noncomputable def f62lE : Clean := ⟨[], [], [], [], []⟩
noncomputable def f62s0 (v0 : Int) : St := initSt f62sig.ps (v0, ())
noncomputable def f62s1 (v2 : Bool) : St := stOf [(2, xB v2)] [] []
noncomputable def f62l1 : Clean := ⟨[2], [], [], [], []⟩
noncomputable def f62B : Nat → Option Clean := lookL [(1000000, f62l1)]
noncomputable abbrev f62i {ρ : Type} (N : Nat) (c : Code) (p : Plan) (σ : St) (K : KT ρ) : Option ρ := iCode f62G tab f62B N c p σ K
noncomputable def f62c (n : Nat) : Code := codeN 99 (bodyOf Tryd.f62) n
theorem f62t0 N v0 (K : KT ρ) : f62i N (f62c 1) .n (f62s0 v0) (joinK (some f62lE) K) =
  cmp_isNaN_int.Z0 N v0 (fun v2 => K .ret (f62s1 v2)) := by kernel_rfl
theorem f62m (N : Nat) (v0 : Int) : f62i N (f62c 1) .n (f62s0 v0) (joinK (some f62lE) (finK tab f62sig Tryd.f62.results.toList)) = cmp_isNaN_int.Z0 N v0 (fun v2 => some ((), (v2, ()))) :=
  (f62t0 N v0 (finK tab f62sig Tryd.f62.results.toList)).trans (by kernel_rfl)
theorem f62ok (h : cmp_isNaN_int.Spec) : EntryOk Tryd.prog 62 e62 :=
  entry_of_code (sig := f62sig) (c := (f62c 1)) (pl := .n) (je := (some f62lE)) (B := f62B) Tryd.func62 (by kernel_rfl) (by kernel_rfl) (by kernel_rfl) tabOk f62GOk (by kernel_rfl) (by kernel_rfl) (by kernel_rfl) (by kernel_rfl) fun X hb hp => by
    obtain ⟨v0, _⟩ := X
    obtain ⟨N, h⟩ := h v0
    exact ⟨N, (f62m N v0).trans (h N (Nat.le_refl N))⟩
theorem e62ok : EntryOk Tryd.prog 62 e62 := f62ok cmp_isNaN_int.ok
end Go.Fw
namespace Go.Fw
variable {ρ : Type}
open Go.Proofs
noncomputable def f50sig : Sig := ⟨[⟨.int .i64, false, false⟩, ⟨.int .i64, false, false⟩], [⟨.int .i64, false, false⟩]⟩
noncomputable def e50 : Entry := ⟨f50sig, none, fun X => ((), ((cmp_Compare_int.g X.1 X.2.1), ()))⟩
noncomputable def f50G : Gm := addG emptyG 62 e62
theorem f50GOk : GOk Tryd.prog f50G := (GOk.nil).add e62ok (by kernel_rfl)
noncomputable def f50lE : Clean := ⟨[], [], [], [], []⟩
noncomputable def f50s0 (v0 v1 : Int) : St := initSt f50sig.ps (v0, (v1, ()))
noncomputable def f50s1 (v4 : Int) : St := stOf [(4, xi v4)] [] []
noncomputable def f50l1 : Clean := ⟨[4], [], [], [], []⟩
noncomputable def f50B : Nat → Option Clean := lookL [(1000000, f50l1)]
noncomputable abbrev f50i {ρ : Type} (N : Nat) (c : Code) (p : Plan) (σ : St) (K : KT ρ) : Option ρ := iCode f50G tab f50B N c p σ K
noncomputable def f50c (n : Nat) : Code := codeN 99 (bodyOf Tryd.f50) n
theorem f50t0 N v0 v1 (K : KT ρ) : f50i N (f50c 1) .n (f50s0 v0 v1) (joinK (some f50lE) K) =
  cmp_Compare_int.Z0 N v0 v1 (fun v4 => K .ret (f50s1 v4)) := by kernel_rfl
theorem f50m (N : Nat) (v0 v1 : Int) : f50i N (f50c 1) .n (f50s0 v0 v1) (joinK (some f50lE) (finK tab f50sig Tryd.f50.results.toList)) = cmp_Compare_int.Z0 N v0 v1 (fun v4 => some ((), (v4, ()))) :=
  (f50t0 N v0 v1 (finK tab f50sig Tryd.f50.results.toList)).trans (by kernel_rfl)
theorem f50ok (h : cmp_Compare_int.Spec) : EntryOk Tryd.prog 50 e50 :=
  entry_of_code (sig := f50sig) (c := (f50c 1)) (pl := .n) (je := (some f50lE)) (B := f50B) Tryd.func50 (by kernel_rfl) (by kernel_rfl) (by kernel_rfl) tabOk f50GOk (by kernel_rfl) (by kernel_rfl) (by kernel_rfl) (by kernel_rfl) fun X hb hp => by
    obtain ⟨v0, v1, _⟩ := X
    obtain ⟨N, h⟩ := h v0 v1
    exact ⟨N, (f50m N v0 v1).trans (h N (Nat.le_refl N))⟩
theorem e50ok : EntryOk Tryd.prog 50 e50 := f50ok cmp_Compare_int.ok
end Go.Fw
namespace Go.Fw
variable {ρ : Type}
open Go.Proofs
noncomputable def f38sig : Sig := ⟨[⟨.sl 3 (.int .i64), false, false⟩, ⟨.sl 3 (.int .i64), false, false⟩], [⟨.int .i64, false, false⟩]⟩
noncomputable def e38 : Entry := ⟨f38sig, none, fun X => ((), ((slices_Compare_int_int.g X.1 X.2.1), ()))⟩
noncomputable def f38G : Gm := addG emptyG 50 e50
theorem f38GOk : GOk Tryd.prog f38G := (GOk.nil).add e50ok (by kernel_rfl)
noncomputable def f38lE : Clean := ⟨[], [], [], [], []⟩
noncomputable def f38s0 (v0 v1 : LI) : St := initSt f38sig.ps (v0, (v1, ()))
noncomputable def f38s1 (v0 v1 : LI) : St := stOf [(0, .c (.sn 3 tI v0 none)), (1, .c (.sn 3 tI v1 none))] [] []
noncomputable def f38l1 : Clean := ⟨[0, 1], [], [], [], []⟩
noncomputable def f38s2 (v0 v1 v9 : LI) (v10 v11 : Int) : St := stOf [(0, .c (.sn 3 tI v0 none)), (1, .c (.sn 3 tI v1 none)), (9, .c (.sn 3 tI v9 none)), (10, xi v10), (11, xi v11)] [] []
noncomputable def f38l2 : Clean := ⟨[0, 1, 9, 10, 11], [], [], [], []⟩
noncomputable def f38s3 (v4 : Int) : St := stOf [(4, xi v4)] [] []
noncomputable def f38l3 : Clean := ⟨[4], [], [], [], []⟩
noncomputable def f38B : Nat → Option Clean := lookL [(0, f38l1), (1000000, f38l3)]
noncomputable abbrev f38i {ρ : Type} (N : Nat) (c : Code) (p : Plan) (σ : St) (K : KT ρ) : Option ρ := iCode f38G tab f38B N c p σ K
noncomputable def f38c (n : Nat) : Code := codeN 99 (bodyOf Tryd.f38) n
theorem f38t1 N v0 v1 (K : KT ρ) : f38i N (f38c 2) .n (f38s0 v0 v1) (joinK (some f38l1) K) =
  slices_Compare_int_int.Z1 N v0 v1 (fun v0 v1 => K .nrm (f38s1 v0 v1)) := by kernel_rfl
theorem f38t4 N v0 v1 (K : KT ρ) : f38i N (f38c 9) .n (f38s1 v0 v1) (joinK (some f38l2) K) =
  slices_Compare_int_int.Z4 N v0 v1 (fun v0 v1 v9 v10 v11 => K .nrm (f38s2 v0 v1 v9 v10 v11)) := by kernel_rfl
theorem f38t7 N v0 v1 v9 v10 v11 (K : KT ρ) : f38i N (f38c 37) .n (f38s2 v0 v1 v9 v10 v11) (joinK (some f38l2) K) =
  slices_Compare_int_int.Z7 N v0 v1 v9 v10 v11 (fun v0 v1 v9 v10 v11 => K .nrm (f38s2 v0 v1 v9 v10 v11)) (fun v0 v1 => K (.exit 0) (f38s1 v0 v1)) (fun v4 => K .ret (f38s3 v4)) := by kernel_rfl
noncomputable def f38p6 : Plan := .mk none (some f38l2) .n .n
noncomputable abbrev f38w6 {ρ : Type} (N M : Nat) (σ : St) (K : KT ρ) : Option ρ := loopC (fun σ K => f38i N (f38c 37) .n σ K) f38l2 M σ K
theorem f38t6L {ρ : Type} (N : Nat) (K : KT ρ) : ∀ (M : Nat) (v0 v1 v9 : LI) (v10 v11 : Int), f38w6 N M (f38s2 v0 v1 v9 v10 v11) K =
  slices_Compare_int_int.Z6L N (fun v0 v1 => K (.exit 0) (f38s1 v0 v1)) (fun v4 => K .ret (f38s3 v4)) M v0 v1 v9 v10 v11
  | 0, _, _, _, _, _ => rfl
  | M + 1, v0, v1, v9, v10, v11 => viaRoundS (fun k => slices_Compare_int_int.Z7 N v0 v1 v9 v10 v11 k (fun v0 v1 => K (.exit 0) (f38s1 v0 v1)) (fun v4 => K .ret (f38s3 v4))) (f38t7 N (K := seqK (fun σ => f38w6 N M σ K) K) ..) (fx5 fun v0 v1 v9 v10 v11 => f38t6L N K M v0 v1 v9 v10 v11) (by kernel_rfl)
theorem f38t6 N v0 v1 v9 v10 v11 (K : KT ρ) : f38i N (f38c 21) f38p6 (f38s2 v0 v1 v9 v10 v11) (joinK (some f38l1) K) =
  slices_Compare_int_int.Z6 N v0 v1 v9 v10 v11 (fun v0 v1 => K (.exit 0) (f38s1 v0 v1)) (fun v4 => K .ret (f38s3 v4)) :=
 viaLoopS (by kernel_rfl) (f38t6L N (joinK (some f38l1) K) N v0 v1 v9 v10 v11) (by kernel_rfl)
noncomputable def f38p5 : Plan := .mk (some f38l1) none f38p6 .n
theorem f38t5 N v0 v1 v9 v10 v11 (K : KT ρ) : f38i N (f38c 13) f38p5 (f38s2 v0 v1 v9 v10 v11) (joinK (some f38l1) K) =
  slices_Compare_int_int.Z5 N v0 v1 v9 v10 v11 (fun v0 v1 => K .nrm (f38s1 v0 v1)) (fun v4 => K .ret (f38s3 v4)) :=
 viaBlockS (by kernel_rfl) (f38t6 N (K := blockK 0 (joinK (some f38l1) K)) ..) (by kernel_rfl)
noncomputable def f38p3 : Plan := .mk (some f38l2) none .n f38p5
theorem f38t3 N v0 v1 (K : KT ρ) : f38i N (f38c 5) f38p3 (f38s1 v0 v1) (joinK (some f38l1) K) =
  slices_Compare_int_int.Z3 N v0 v1 (fun v0 v1 => K .nrm (f38s1 v0 v1)) (fun v4 => K .ret (f38s3 v4)) :=
 viaSeqS (fun k => slices_Compare_int_int.Z4 N v0 v1 k) (by kernel_rfl) (f38t4 N (K := seqK (fun σ => f38i N (f38c 13) f38p5 σ (joinK (some f38l1) K)) (joinK (some f38l1) K)) ..) (fx5 fun v0 v1 v9 v10 v11 => f38t5 N v0 v1 v9 v10 v11 K) (by kernel_rfl)
theorem f38t8 N v0 v1 (K : KT ρ) : f38i N (f38c 7) .n (f38s1 v0 v1) (joinK (some f38lE) K) =
  slices_Compare_int_int.Z8 N v0 v1 (fun v4 => K .ret (f38s3 v4)) := by kernel_rfl
noncomputable def f38p2 : Plan := .mk (some f38l1) none f38p3 .n
theorem f38t2 N v0 v1 (K : KT ρ) : f38i N (f38c 3) f38p2 (f38s1 v0 v1) (joinK (some f38lE) K) =
  slices_Compare_int_int.Z2 N v0 v1 (fun v4 => K .ret (f38s3 v4)) :=
 viaSeqS (fun k => slices_Compare_int_int.Z3 N v0 v1 k (fun v4 => K .ret (f38s3 v4))) (by kernel_rfl) (f38t3 N (K := seqK (fun σ => f38i N (f38c 7) .n σ (joinK (some f38lE) K)) (joinK (some f38lE) K)) ..) (fx2 fun v0 v1 => f38t8 N v0 v1 K) (by kernel_rfl)
noncomputable def f38p0 : Plan := .mk (some f38l1) none .n f38p2
theorem f38t0 N v0 v1 (K : KT ρ) : f38i N (f38c 1) f38p0 (f38s0 v0 v1) (joinK (some f38lE) K) =
  slices_Compare_int_int.Z0 N v0 v1 (fun v4 => K .ret (f38s3 v4)) :=
 viaSeqS (fun k => slices_Compare_int_int.Z1 N v0 v1 k) (by kernel_rfl) (f38t1 N (K := seqK (fun σ => f38i N (f38c 3) f38p2 σ (joinK (some f38lE) K)) (joinK (some f38lE) K)) ..) (fx2 fun v0 v1 => f38t2 N v0 v1 K) (by kernel_rfl)
theorem f38m (N : Nat) (v0 v1 : LI) : f38i N (f38c 1) f38p0 (f38s0 v0 v1) (joinK (some f38lE) (finK tab f38sig Tryd.f38.results.toList)) = slices_Compare_int_int.Z0 N v0 v1 (fun v4 => some ((), (v4, ()))) :=
  (f38t0 N v0 v1 (finK tab f38sig Tryd.f38.results.toList)).trans (by kernel_rfl)
theorem f38ok (h : slices_Compare_int_int.Spec) : EntryOk Tryd.prog 38 e38 :=
  entry_of_code (sig := f38sig) (c := (f38c 1)) (pl := f38p0) (je := (some f38lE)) (B := f38B) Tryd.func38 (by kernel_rfl) (by kernel_rfl) (by kernel_rfl) tabOk f38GOk (by kernel_rfl) (by kernel_rfl) (by kernel_rfl) (by kernel_rfl) fun X hb hp => by
    obtain ⟨v0, v1, _⟩ := X
    obtain ⟨N, h⟩ := h v0 v1 hb.1 hb.2.1
    exact ⟨N, (f38m N v0 v1).trans (h N (Nat.le_refl N))⟩
theorem e38ok : EntryOk Tryd.prog 38 e38 := f38ok slices_Compare_int_int.ok
end Go.Fw
namespace Go.Fw
variable {ρ : Type}
open Go.Proofs
noncomputable def f20sig : Sig := ⟨[⟨.pair (.int .i64) (.sl 46 (.pair (.sl 3 (.int .i64)) (.int .i64))), true, false⟩], [⟨.bool, false, false⟩]⟩
noncomputable def e20 : Entry := ⟨f20sig, none, fun X => ((), ((impl_LaurentOk.g X.1), ()))⟩
noncomputable def f20G : Gm := addG (addG (addG (addG emptyG 35 e35) 36 e36) 37 e37) 38 e38
theorem f20GOk : GOk Tryd.prog f20G := ((((GOk.nil).add e35ok (by kernel_rfl)).add e36ok (by kernel_rfl)).add e37ok (by kernel_rfl)).add e38ok (by kernel_rfl)
noncomputable def f20lE : Clean := ⟨[], [], [], [], []⟩
noncomputable def f20s0 (v0 : Int × List (LI × Int)) : St := initSt f20sig.ps (v0, ())
noncomputable def f20s1 (v1_0 : Int) (v1_1 : List (LI × Int)) : St := stOf [(1, xb 1)] [(1, (29, [yi v1_0, .sn 46 (.pair (.sl 3 tI) tI) v1_1 none]))] []
noncomputable def f20l1 : Clean := ⟨[1], [1], [], [], []⟩
noncomputable def f20s2 (v16 : List (LI × Int)) (v17 v18 v1_0 : Int) (v1_1 : List (LI × Int)) : St := stOf [(1, xb 1), (16, .c (.sn 46 (.pair (.sl 3 tI) tI) v16 none)), (17, xi v17), (18, xi v18)] [(1, (29, [yi v1_0, .sn 46 (.pair (.sl 3 tI) tI) v1_1 none]))] []
noncomputable def f20l2 : Clean := ⟨[1, 16, 17, 18], [1], [], [], []⟩
noncomputable def f20s3  : St := stOf [] [] []
noncomputable def f20l3 : Clean := ⟨[], [], [], [], []⟩
noncomputable def f20s4 (v2 : Bool) : St := stOf [(2, xB v2)] [] []
noncomputable def f20l4 : Clean := ⟨[2], [], [], [], []⟩
noncomputable def f20B : Nat → Option Clean := lookL [(0, f20l3), (1000000, f20l4)]
noncomputable abbrev f20i {ρ : Type} (N : Nat) (c : Code) (p : Plan) (σ : St) (K : KT ρ) : Option ρ := iCode f20G tab f20B N c p σ K
noncomputable def f20c (n : Nat) : Code := codeN 99 (bodyOf Tryd.f20) n
theorem f20t1 N v0 (K : KT ρ) : f20i N (f20c 2) .n (f20s0 v0) (joinK (some f20l1) K) =
  impl_LaurentOk.Z1 N v0 (fun v1_0 v1_1 => K .nrm (f20s1 v1_0 v1_1)) := by kernel_rfl
theorem f20t3 N v1_0 v1_1 (K : KT ρ) : f20i N (f20c 5) .n (f20s1 v1_0 v1_1) (joinK (some f20l1) K) =
  impl_LaurentOk.Z3 N v1_0 v1_1 (fun v1_0 v1_1 => K .nrm (f20s1 v1_0 v1_1)) (fun v2 => K .ret (f20s4 v2)) := by kernel_rfl
theorem f20t6 N v1_0 v1_1 (K : KT ρ) : f20i N (f20c 19) .n (f20s1 v1_0 v1_1) (joinK (some f20l2) K) =
  impl_LaurentOk.Z6 N v1_0 v1_1 (fun v16 v17 v18 v1_0 v1_1 => K .nrm (f20s2 v16 v17 v18 v1_0 v1_1)) := by kernel_rfl
theorem f20t9 N v16 v17 v18 v1_0 v1_1 (K : KT ρ) : f20i N (f20c 75) .n (f20s2 v16 v17 v18 v1_0 v1_1) (joinK (some f20l2) K) =
  impl_LaurentOk.Z9 N v16 v17 v18 v1_0 v1_1 (fun v16 v17 v18 v1_0 v1_1 => K .nrm (f20s2 v16 v17 v18 v1_0 v1_1)) (K (.exit 0) f20s3) (fun v2 => K .ret (f20s4 v2)) := by kernel_rfl
noncomputable def f20p8 : Plan := .mk none (some f20l2) .n .n
noncomputable abbrev f20w8 {ρ : Type} (N M : Nat) (σ : St) (K : KT ρ) : Option ρ := loopC (fun σ K => f20i N (f20c 75) .n σ K) f20l2 M σ K
theorem f20t8L {ρ : Type} (N : Nat) (K : KT ρ) : ∀ (M : Nat) (v16 : List (LI × Int)) (v17 v18 v1_0 : Int) (v1_1 : List (LI × Int)), f20w8 N M (f20s2 v16 v17 v18 v1_0 v1_1) K =
  impl_LaurentOk.Z8L N (K (.exit 0) f20s3) (fun v2 => K .ret (f20s4 v2)) M v16 v17 v18 v1_0 v1_1
  | 0, _, _, _, _, _ => rfl
  | M + 1, v16, v17, v18, v1_0, v1_1 => viaRoundS (fun k => impl_LaurentOk.Z9 N v16 v17 v18 v1_0 v1_1 k (K (.exit 0) f20s3) (fun v2 => K .ret (f20s4 v2))) (f20t9 N (K := seqK (fun σ => f20w8 N M σ K) K) ..) (fx5 fun v16 v17 v18 v1_0 v1_1 => f20t8L N K M v16 v17 v18 v1_0 v1_1) (by kernel_rfl)
theorem f20t8 N v16 v17 v18 v1_0 v1_1 (K : KT ρ) : f20i N (f20c 43) f20p8 (f20s2 v16 v17 v18 v1_0 v1_1) (joinK (some f20l3) K) =
  impl_LaurentOk.Z8 N v16 v17 v18 v1_0 v1_1 (K (.exit 0) f20s3) (fun v2 => K .ret (f20s4 v2)) :=
 viaLoopS (by kernel_rfl) (f20t8L N (joinK (some f20l3) K) N v16 v17 v18 v1_0 v1_1) (by kernel_rfl)
noncomputable def f20p7 : Plan := .mk (some f20l3) none f20p8 .n
theorem f20t7 N v16 v17 v18 v1_0 v1_1 (K : KT ρ) : f20i N (f20c 27) f20p7 (f20s2 v16 v17 v18 v1_0 v1_1) (joinK (some f20l3) K) =
  impl_LaurentOk.Z7 N v16 v17 v18 v1_0 v1_1 (K .nrm f20s3) (fun v2 => K .ret (f20s4 v2)) :=
 viaBlockS (by kernel_rfl) (f20t8 N (K := blockK 0 (joinK (some f20l3) K)) ..) (by kernel_rfl)
noncomputable def f20p5 : Plan := .mk (some f20l2) none .n f20p7
theorem f20t5 N v1_0 v1_1 (K : KT ρ) : f20i N (f20c 11) f20p5 (f20s1 v1_0 v1_1) (joinK (some f20l3) K) =
  impl_LaurentOk.Z5 N v1_0 v1_1 (K .nrm f20s3) (fun v2 => K .ret (f20s4 v2)) :=
 viaSeqS (fun k => impl_LaurentOk.Z6 N v1_0 v1_1 k) (by kernel_rfl) (f20t6 N (K := seqK (fun σ => f20i N (f20c 27) f20p7 σ (joinK (some f20l3) K)) (joinK (some f20l3) K)) ..) (fx5 fun v16 v17 v18 v1_0 v1_1 => f20t7 N v16 v17 v18 v1_0 v1_1 K) (by kernel_rfl)
theorem f20t10 N  (K : KT ρ) : f20i N (f20c 15) .n f20s3 (joinK (some f20lE) K) =
  impl_LaurentOk.Z10 N (fun v2 => K .ret (f20s4 v2)) := by kernel_rfl
noncomputable def f20p4 : Plan := .mk (some f20l3) none f20p5 .n
theorem f20t4 N v1_0 v1_1 (K : KT ρ) : f20i N (f20c 7) f20p4 (f20s1 v1_0 v1_1) (joinK (some f20lE) K) =
  impl_LaurentOk.Z4 N v1_0 v1_1 (fun v2 => K .ret (f20s4 v2)) :=
 viaSeqS (fun k => impl_LaurentOk.Z5 N v1_0 v1_1 k (fun v2 => K .ret (f20s4 v2))) (by kernel_rfl) (f20t5 N (K := seqK (fun σ => f20i N (f20c 15) .n σ (joinK (some f20lE) K)) (joinK (some f20lE) K)) ..) (f20t10 N K) (by kernel_rfl)
noncomputable def f20p2 : Plan := .mk (some f20l1) none .n f20p4
theorem f20t2 N v1_0 v1_1 (K : KT ρ) : f20i N (f20c 3) f20p2 (f20s1 v1_0 v1_1) (joinK (some f20lE) K) =
  impl_LaurentOk.Z2 N v1_0 v1_1 (fun v2 => K .ret (f20s4 v2)) :=
 viaSeqS (fun k => impl_LaurentOk.Z3 N v1_0 v1_1 k (fun v2 => K .ret (f20s4 v2))) (by kernel_rfl) (f20t3 N (K := seqK (fun σ => f20i N (f20c 7) f20p4 σ (joinK (some f20lE) K)) (joinK (some f20lE) K)) ..) (fx2 fun v1_0 v1_1 => f20t4 N v1_0 v1_1 K) (by kernel_rfl)
noncomputable def f20p0 : Plan := .mk (some f20l1) none .n f20p2
theorem f20t0 N v0 (K : KT ρ) : f20i N (f20c 1) f20p0 (f20s0 v0) (joinK (some f20lE) K) =
  impl_LaurentOk.Z0 N v0 (fun v2 => K .ret (f20s4 v2)) :=
 viaSeqS (fun k => impl_LaurentOk.Z1 N v0 k) (by kernel_rfl) (f20t1 N (K := seqK (fun σ => f20i N (f20c 3) f20p2 σ (joinK (some f20lE) K)) (joinK (some f20lE) K)) ..) (fx2 fun v1_0 v1_1 => f20t2 N v1_0 v1_1 K) (by kernel_rfl)
theorem f20m (N : Nat) (v0 : Int × List (LI × Int)) : f20i N (f20c 1) f20p0 (f20s0 v0) (joinK (some f20lE) (finK tab f20sig Tryd.f20.results.toList)) = impl_LaurentOk.Z0 N v0 (fun v2 => some ((), (v2, ()))) :=
  (f20t0 N v0 (finK tab f20sig Tryd.f20.results.toList)).trans (by kernel_rfl)
theorem f20ok (h : impl_LaurentOk.Spec) : EntryOk Tryd.prog 20 e20 :=
  entry_of_code (sig := f20sig) (c := (f20c 1)) (pl := f20p0) (je := (some f20lE)) (B := f20B) Tryd.func20 (by kernel_rfl) (by kernel_rfl) (by kernel_rfl) tabOk f20GOk (by kernel_rfl) (by kernel_rfl) (by kernel_rfl) (by kernel_rfl) fun X hb hp => by
    obtain ⟨v0, _⟩ := X
    obtain ⟨N, h⟩ := h v0 hb.1
    exact ⟨N, (f20m N v0).trans (h N (Nat.le_refl N))⟩
theorem e20ok : EntryOk Tryd.prog 20 e20 := f20ok impl_LaurentOk.ok
end Go.Fw
namespace Go.Fw
variable {ρ : Type}
open Go.Proofs
noncomputable def f39sig : Sig := ⟨[⟨.int .i64, false, false⟩], [⟨.str, false, false⟩]⟩
noncomputable def e39 : Entry := ⟨f39sig, (some fun X => strconv_Itoa.P X.1), fun X => ((), ((strconv_Itoa.g X.1), ()))⟩
noncomputable def f39layren : Go.Shelf.Ren := ⟨fun | 171 => 39 | 243 => 51 | 246 => 63 | 283 => 67 | 284 => 68 | 285 => 69 | 286 => 70 | 129 => 72 | 317 => 71 | 318 => 73 | 319 => 74 | 320 => 75 | 337 => 76 | 338 => 77 | n => n, fun | 3 => 3 | 9 => 9 | 2 => 2 | 4 => 4 | 171 => 91 | 0 => 0 | 53 => 92 | 37 => 61 | 5 => 5 | 173 => 95 | 212 => 98 | 51 => 99 | 20 => 20 | 213 => 100 | 46 => 101 | 232 => 104 | 233 => 105 | n => n, fun | 17 => 1 | 18 => 2 | 19 => 3 | n => n⟩
theorem f39lay : LaysM.n171 Tryd.prog f39layren := { mixed := (by kernel_rfl), f129 := Tryd.func72.trans (congrArg some (by kernel_rfl)), f171 := Tryd.func39.trans (congrArg some (by kernel_rfl)), f243 := Tryd.func51.trans (congrArg some (by kernel_rfl)), f246 := Tryd.func63.trans (congrArg some (by kernel_rfl)), f283 := Tryd.func67.trans (congrArg some (by kernel_rfl)), f284 := Tryd.func68.trans (congrArg some (by kernel_rfl)), f285 := Tryd.func69.trans (congrArg some (by kernel_rfl)), f286 := Tryd.func70.trans (congrArg some (by kernel_rfl)), f317 := Tryd.func71.trans (congrArg some (by kernel_rfl)), f318 := Tryd.func73.trans (congrArg some (by kernel_rfl)), f319 := Tryd.func74.trans (congrArg some (by kernel_rfl)), f320 := Tryd.func75.trans (congrArg some (by kernel_rfl)), f337 := Tryd.func76.trans (congrArg some (by kernel_rfl)), f338 := Tryd.func77.trans (congrArg some (by kernel_rfl)), t0 := Tryd.underlying0, a0 := Tryd.isAgg0, z0 := Tryd.sizeOf0, v0 := Tryd.zeroValue0, t2 := Tryd.underlying2, a2 := Tryd.isAgg2, z2 := Tryd.sizeOf2, v2 := Tryd.zeroValue2, t3 := Tryd.underlying3, a3 := Tryd.isAgg3, z3 := Tryd.sizeOf3, v3 := Tryd.zeroValue3, t4 := Tryd.underlying4, a4 := Tryd.isAgg4, z4 := Tryd.sizeOf4, v4 := Tryd.zeroValue4, t5 := Tryd.underlying5, a5 := Tryd.isAgg5, z5 := Tryd.sizeOf5, v5 := Tryd.zeroValue5, t9 := Tryd.underlying9, a9 := Tryd.isAgg9, z9 := Tryd.sizeOf9, v9 := Tryd.zeroValue9, t20 := Tryd.underlying20, a20 := Tryd.isAgg20, z20 := Tryd.sizeOf20, v20 := Tryd.zeroValue20, t37 := Tryd.underlying61, a37 := Tryd.isAgg61, z37 := Tryd.sizeOf61, v37 := Tryd.zeroValue61, t46 := Tryd.underlying101, a46 := Tryd.isAgg101, z46 := Tryd.sizeOf101, v46 := Tryd.zeroValue101, t51 := Tryd.underlying99, a51 := Tryd.isAgg99, z51 := Tryd.sizeOf99, v51 := Tryd.zeroValue99, t53 := Tryd.underlying92, a53 := Tryd.isAgg92, z53 := Tryd.sizeOf92, v53 := Tryd.zeroValue92, t171 := Tryd.underlying91, a171 := Tryd.isAgg91, z171 := Tryd.sizeOf91, v171 := Tryd.zeroValue91, t173 := Tryd.underlying95, a173 := Tryd.isAgg95, z173 := Tryd.sizeOf95, v173 := Tryd.zeroValue95, t212 := Tryd.underlying98, a212 := Tryd.isAgg98, z212 := Tryd.sizeOf98, v212 := Tryd.zeroValue98, t213 := Tryd.underlying100, a213 := Tryd.isAgg100, z213 := Tryd.sizeOf100, t232 := Tryd.underlying104, a232 := Tryd.isAgg104, z232 := Tryd.sizeOf104, v232 := Tryd.zeroValue104, t233 := Tryd.underlying105, a233 := Tryd.isAgg105, z233 := Tryd.sizeOf105, v233 := Tryd.zeroValue105, g17 := (by kernel_rfl), g18 := (by kernel_rfl), g19 := (by kernel_rfl), i0 := (by kernel_rfl), i2 := (by kernel_rfl), i3 := (by kernel_rfl), i4 := (by kernel_rfl), i5 := (by kernel_rfl), i9 := (by kernel_rfl), i20 := (by kernel_rfl), i37 := (by kernel_rfl), i46 := (by kernel_rfl), i51 := (by kernel_rfl), i53 := (by kernel_rfl), i171 := (by kernel_rfl), i173 := (by kernel_rfl), i212 := (by kernel_rfl), i232 := (by kernel_rfl), i233 := (by kernel_rfl), m17 := (by kernel_rfl), m18 := (by kernel_rfl), m19 := (by kernel_rfl) }
theorem f39ok (_ : True) : EntryOk Tryd.prog 39 e39 := itoa_ok tab0 f39lay
theorem e39ok : EntryOk Tryd.prog 39 e39 := f39ok strconv_Itoa.ok
end Go.Fw
namespace Go.Fw
variable {ρ : Type}
open Go.Proofs
noncomputable def f21sig : Sig := ⟨[⟨.int .i64, false, false⟩], [⟨.str, false, false⟩]⟩
noncomputable def e21 : Entry := ⟨f21sig, (some fun X => impl_FormatInt.P X.1), fun X => ((), ((impl_FormatInt.g X.1), ()))⟩
noncomputable def f21G : Gm := addG emptyG 39 e39
theorem f21GOk : GOk Tryd.prog f21G := (GOk.nil).add e39ok (by kernel_rfl)
noncomputable def f21lE : Clean := ⟨[], [], [], [], []⟩
noncomputable def f21s0 (v0 : Int) : St := initSt f21sig.ps (v0, ())
noncomputable def f21s1 (v2 : ByteArray) : St := stOf [(2, .c (.str v2))] [] []
noncomputable def f21l1 : Clean := ⟨[2], [], [], [], []⟩
noncomputable def f21B : Nat → Option Clean := lookL [(1000000, f21l1)]
noncomputable abbrev f21i {ρ : Type} (N : Nat) (c : Code) (p : Plan) (σ : St) (K : KT ρ) : Option ρ := iCode f21G tab f21B N c p σ K
noncomputable def f21c (n : Nat) : Code := codeN 99 (bodyOf Tryd.f21) n
theorem f21t0 N v0 (K : KT ρ) : f21i N (f21c 1) .n (f21s0 v0) (joinK (some f21lE) K) =
  impl_FormatInt.Z0 N v0 (fun v2 => K .ret (f21s1 v2)) := by kernel_rfl
theorem f21m (N : Nat) (v0 : Int) : f21i N (f21c 1) .n (f21s0 v0) (joinK (some f21lE) (finK tab f21sig Tryd.f21.results.toList)) = impl_FormatInt.Z0 N v0 (fun v2 => some ((), (v2, ()))) :=
  (f21t0 N v0 (finK tab f21sig Tryd.f21.results.toList)).trans (by kernel_rfl)
theorem f21ok (h : impl_FormatInt.Spec) : EntryOk Tryd.prog 21 e21 :=
  entry_of_code (sig := f21sig) (c := (f21c 1)) (pl := .n) (je := (some f21lE)) (B := f21B) Tryd.func21 (by kernel_rfl) (by kernel_rfl) (by kernel_rfl) tabOk f21GOk (by kernel_rfl) (by kernel_rfl) (by kernel_rfl) (by kernel_rfl) fun X hb hp => by
    obtain ⟨v0, _⟩ := X
    obtain ⟨N, h⟩ := h v0 hp
    exact ⟨N, (f21m N v0).trans (h N (Nat.le_refl N))⟩
theorem e21ok : EntryOk Tryd.prog 21 e21 := f21ok impl_FormatInt.ok
end Go.Fw
namespace Go.Fw
variable {ρ : Type}
open Go.Proofs
noncomputable def f23sig : Sig := ⟨[⟨.sl 9 (.str), false, false⟩, ⟨.str, false, false⟩], [⟨.str, false, false⟩]⟩
noncomputable def e23 : Entry := ⟨f23sig, (some fun X => strings_Join.P X.1 X.2.1), fun X => ((), ((strings_Join.g X.1 X.2.1), ()))⟩
noncomputable def f23layren : Go.Shelf.Ren := ⟨fun | 156 => 23 | 165 => 40 | 166 => 41 | 169 => 42 | 240 => 52 | 241 => 53 | 276 => 64 | 277 => 65 | n => n, fun | 31 => 49 | 9 => 9 | 3 => 3 | 4 => 4 | 0 => 0 | 20 => 20 | 72 => 68 | 76 => 72 | 70 => 66 | 37 => 61 | 75 => 71 | 127 => 81 | 164 => 88 | 5 => 5 | 80 => 74 | n => n, fun n => n⟩
theorem f23lay : Lays.n156 Tryd.prog f23layren := { mixed := (by kernel_rfl), f156 := Tryd.func23.trans (congrArg some (by kernel_rfl)), f165 := Tryd.func40.trans (congrArg some (by kernel_rfl)), f166 := Tryd.func41.trans (congrArg some (by kernel_rfl)), f169 := Tryd.func42.trans (congrArg some (by kernel_rfl)), f240 := Tryd.func52.trans (congrArg some (by kernel_rfl)), f241 := Tryd.func53.trans (congrArg some (by kernel_rfl)), f276 := Tryd.func64.trans (congrArg some (by kernel_rfl)), f277 := Tryd.func65.trans (congrArg some (by kernel_rfl)), t0 := Tryd.underlying0, a0 := Tryd.isAgg0, z0 := Tryd.sizeOf0, v0 := Tryd.zeroValue0, t3 := Tryd.underlying3, a3 := Tryd.isAgg3, z3 := Tryd.sizeOf3, v3 := Tryd.zeroValue3, t4 := Tryd.underlying4, a4 := Tryd.isAgg4, z4 := Tryd.sizeOf4, v4 := Tryd.zeroValue4, t9 := Tryd.underlying9, a9 := Tryd.isAgg9, z9 := Tryd.sizeOf9, v9 := Tryd.zeroValue9, t20 := Tryd.underlying20, a20 := Tryd.isAgg20, z20 := Tryd.sizeOf20, v20 := Tryd.zeroValue20, t31 := Tryd.underlying49, a31 := Tryd.isAgg49, z31 := Tryd.sizeOf49, v31 := Tryd.zeroValue49, t37 := Tryd.underlying61, a37 := Tryd.isAgg61, z37 := Tryd.sizeOf61, v37 := Tryd.zeroValue61, t70 := Tryd.underlying66, a70 := Tryd.isAgg66, z70 := Tryd.sizeOf66, v70 := Tryd.zeroValue66, t72 := Tryd.underlying68, a72 := Tryd.isAgg68, z72 := Tryd.sizeOf68, v72 := Tryd.zeroValue68, t75 := Tryd.underlying71, a75 := Tryd.isAgg71, z75 := Tryd.sizeOf71, v75 := Tryd.zeroValue71, t76 := Tryd.underlying72, a76 := Tryd.isAgg72, z76 := Tryd.sizeOf72, v76 := Tryd.zeroValue72, t127 := Tryd.underlying81, a127 := Tryd.isAgg81, z127 := Tryd.sizeOf81, v127 := Tryd.zeroValue81, t164 := Tryd.underlying88, a164 := Tryd.isAgg88, z164 := Tryd.sizeOf88, v164 := Tryd.zeroValue88 }
theorem f23layX : Builder.Extra Tryd.prog f23layren := { sizeBuilder := (by kernel_rfl), liesBuilder := (by kernel_rfl), t5 := Tryd.underlying5, a5 := Tryd.isAgg5, z5 := Tryd.sizeOf5, v5 := Tryd.zeroValue5, infoByte := (by kernel_rfl), cellsByte := (by kernel_rfl), sizeByte := (by kernel_rfl), neB5 := (by decide) }
theorem f23ok (_ : True) : EntryOk Tryd.prog 23 e23 := join_ok f23lay f23layX
theorem e23ok : EntryOk Tryd.prog 23 e23 := f23ok strings_Join.ok
end Go.Fw
namespace Go.Fw
variable {ρ : Type}
open Go.Proofs
noncomputable def f22sig : Sig := ⟨[⟨.sl 3 (.int .i64), false, false⟩], [⟨.str, false, false⟩]⟩
noncomputable def e22 : Entry := ⟨f22sig, (some fun X => impl_FormatInts.P X.1), fun X => ((), ((impl_FormatInts.g X.1), ()))⟩
noncomputable def f22G : Gm := addG (addG emptyG 21 e21) 23 e23
theorem f22GOk : GOk Tryd.prog f22G := ((GOk.nil).add e21ok (by kernel_rfl)).add e23ok (by kernel_rfl)
noncomputable def f22lE : Clean := ⟨[], [], [], [], []⟩
noncomputable def f22s0 (v0 : LI) : St := initSt f22sig.ps (v0, ())
noncomputable def f22s1 (v0 : LI) : St := stOf [(0, .c (.sn 3 tI v0 none))] [] []
noncomputable def f22l1 : Clean := ⟨[0], [], [], [], []⟩
noncomputable def f22s2 (v0 : LI) : St := stOf [(0, .c (.sn 3 tI v0 none)), (3, .c (.nil))] [] []
noncomputable def f22l2 : Clean := ⟨[0, 3], [], [], [], []⟩
noncomputable def f22s3 (v6 : LI) (v7 v8 : Int) : St := stOf [(3, .c (.nil)), (6, .c (.sn 3 tI v6 none)), (7, xi v7), (8, xi v8)] [] []
noncomputable def f22l3 : Clean := ⟨[3, 6, 7, 8], [], [], [], []⟩
noncomputable def f22s4 (v3 : List ByteArray) (v6 : LI) (v7 v8 : Int) : St := stOf [(3, xo 1000192), (6, .c (.sn 3 tI v6 none)), (7, xi v7), (8, xi v8)] [] [(1000192, (⟨9, .str, v3, true, false⟩ : Row))]
noncomputable def f22l4 : Clean := ⟨[3, 6, 7, 8], [], [⟨⟨false, 3, 0⟩, 30000000, 9, .str, true⟩], [], [(⟨false, 3, 0⟩, 1000192)]⟩
noncomputable def f22s5 (v3 : List ByteArray) : St := stOf [(3, xo 1000192)] [] [(1000192, (⟨9, .str, v3, true, false⟩ : Row))]
noncomputable def f22l5 : Clean := ⟨[3], [], [], [], [(⟨false, 3, 0⟩, 1000192)]⟩
noncomputable def f22s6 (v2 : ByteArray) : St := stOf [(2, .c (.str v2))] [] []
noncomputable def f22l6 : Clean := ⟨[2], [], [], [], []⟩
noncomputable def f22B : Nat → Option Clean := lookL [(0, f22l5), (1000000, f22l6)]
noncomputable abbrev f22i {ρ : Type} (N : Nat) (c : Code) (p : Plan) (σ : St) (K : KT ρ) : Option ρ := iCode f22G tab f22B N c p σ K
noncomputable def f22c (n : Nat) : Code := codeN 99 (bodyOf Tryd.f22) n
theorem f22t1 N v0 (K : KT ρ) : f22i N (f22c 2) .n (f22s0 v0) (joinK (some f22l1) K) =
  impl_FormatInts.Z1 N v0 (fun v0 => K .nrm (f22s1 v0)) := by kernel_rfl
theorem f22t3 N v0 (K : KT ρ) : f22i N (f22c 5) .n (f22s1 v0) (joinK (some f22l2) K) =
  impl_FormatInts.Z3 N v0 (fun v0 => K .nrm (f22s2 v0)) := by kernel_rfl
theorem f22t6 N v0 (K : KT ρ) : f22i N (f22c 19) .n (f22s2 v0) (joinK (some f22l3) K) =
  impl_FormatInts.Z6 N v0 (fun v6 v7 v8 => K .nrm (f22s3 v6 v7 v8)) := by kernel_rfl
theorem f22t9 N v3 v6 v7 v8 (K : KT ρ) : f22i N (f22c 75) .n (f22s4 v3 v6 v7 v8) (joinK (some f22l4) K) =
  impl_FormatInts.Z9 N v3 v6 v7 v8 (fun v3 v6 v7 v8 => K .nrm (f22s4 v3 v6 v7 v8)) (fun v3 => K (.exit 0) (f22s5 v3)) := by kernel_rfl
noncomputable def f22p8 : Plan := .mk none (some f22l4) .n .n
noncomputable abbrev f22w8 {ρ : Type} (N M : Nat) (σ : St) (K : KT ρ) : Option ρ := loopC (fun σ K => f22i N (f22c 75) .n σ K) f22l4 M σ K
theorem f22t8L {ρ : Type} (N : Nat) (K : KT ρ) : ∀ (M : Nat) (v3 : List ByteArray) (v6 : LI) (v7 v8 : Int), f22w8 N M (f22s4 v3 v6 v7 v8) K =
  impl_FormatInts.Z8L N (fun v3 => K (.exit 0) (f22s5 v3)) M v3 v6 v7 v8
  | 0, _, _, _, _ => rfl
  | M + 1, v3, v6, v7, v8 => viaRoundS (fun k => impl_FormatInts.Z9 N v3 v6 v7 v8 k (fun v3 => K (.exit 0) (f22s5 v3))) (f22t9 N (K := seqK (fun σ => f22w8 N M σ K) K) ..) (fx4 fun v3 v6 v7 v8 => f22t8L N K M v3 v6 v7 v8) (by kernel_rfl)
theorem f22t8 N v6 v7 v8 (K : KT ρ) : f22i N (f22c 43) f22p8 (f22s3 v6 v7 v8) (joinK (some f22l5) K) =
  impl_FormatInts.Z8 N v6 v7 v8 (fun v3 => K (.exit 0) (f22s5 v3)) :=
 viaLoopS (by kernel_rfl) (f22t8L N (joinK (some f22l5) K) N ([] : List ByteArray) v6 v7 v8) (by kernel_rfl)
noncomputable def f22p7 : Plan := .mk (some f22l5) none f22p8 .n
theorem f22t7 N v6 v7 v8 (K : KT ρ) : f22i N (f22c 27) f22p7 (f22s3 v6 v7 v8) (joinK (some f22l5) K) =
  impl_FormatInts.Z7 N v6 v7 v8 (fun v3 => K .nrm (f22s5 v3)) :=
 viaBlockS (by kernel_rfl) (f22t8 N (K := blockK 0 (joinK (some f22l5) K)) ..) (by kernel_rfl)
noncomputable def f22p5 : Plan := .mk (some f22l3) none .n f22p7
theorem f22t5 N v0 (K : KT ρ) : f22i N (f22c 11) f22p5 (f22s2 v0) (joinK (some f22l5) K) =
  impl_FormatInts.Z5 N v0 (fun v3 => K .nrm (f22s5 v3)) :=
 viaSeqS (fun k => impl_FormatInts.Z6 N v0 k) (by kernel_rfl) (f22t6 N (K := seqK (fun σ => f22i N (f22c 27) f22p7 σ (joinK (some f22l5) K)) (joinK (some f22l5) K)) ..) (fx3 fun v6 v7 v8 => f22t7 N v6 v7 v8 K) (by kernel_rfl)
theorem f22t10 N v3 (K : KT ρ) : f22i N (f22c 15) .n (f22s5 v3) (joinK (some f22lE) K) =
  impl_FormatInts.Z10 N v3 (fun v2 => K .ret (f22s6 v2)) := by kernel_rfl
noncomputable def f22p4 : Plan := .mk (some f22l5) none f22p5 .n
theorem f22t4 N v0 (K : KT ρ) : f22i N (f22c 7) f22p4 (f22s2 v0) (joinK (some f22lE) K) =
  impl_FormatInts.Z4 N v0 (fun v2 => K .ret (f22s6 v2)) :=
 viaSeqS (fun k => impl_FormatInts.Z5 N v0 k) (by kernel_rfl) (f22t5 N (K := seqK (fun σ => f22i N (f22c 15) .n σ (joinK (some f22lE) K)) (joinK (some f22lE) K)) ..) (funext fun v3 => f22t10 N v3 K) (by kernel_rfl)
noncomputable def f22p2 : Plan := .mk (some f22l2) none .n f22p4
theorem f22t2 N v0 (K : KT ρ) : f22i N (f22c 3) f22p2 (f22s1 v0) (joinK (some f22lE) K) =
  impl_FormatInts.Z2 N v0 (fun v2 => K .ret (f22s6 v2)) :=
 viaSeqS (fun k => impl_FormatInts.Z3 N v0 k) (by kernel_rfl) (f22t3 N (K := seqK (fun σ => f22i N (f22c 7) f22p4 σ (joinK (some f22lE) K)) (joinK (some f22lE) K)) ..) (funext fun v0 => f22t4 N v0 K) (by kernel_rfl)
noncomputable def f22p0 : Plan := .mk (some f22l1) none .n f22p2
theorem f22t0 N v0 (K : KT ρ) : f22i N (f22c 1) f22p0 (f22s0 v0) (joinK (some f22lE) K) =
  impl_FormatInts.Z0 N v0 (fun v2 => K .ret (f22s6 v2)) :=
 viaSeqS (fun k => impl_FormatInts.Z1 N v0 k) (by kernel_rfl) (f22t1 N (K := seqK (fun σ => f22i N (f22c 3) f22p2 σ (joinK (some f22lE) K)) (joinK (some f22lE) K)) ..) (funext fun v0 => f22t2 N v0 K) (by kernel_rfl)
theorem f22m (N : Nat) (v0 : LI) : f22i N (f22c 1) f22p0 (f22s0 v0) (joinK (some f22lE) (finK tab f22sig Tryd.f22.results.toList)) = impl_FormatInts.Z0 N v0 (fun v2 => some ((), (v2, ()))) :=
  (f22t0 N v0 (finK tab f22sig Tryd.f22.results.toList)).trans (by kernel_rfl)
theorem f22ok (h : impl_FormatInts.Spec) : EntryOk Tryd.prog 22 e22 :=
  entry_of_code (sig := f22sig) (c := (f22c 1)) (pl := f22p0) (je := (some f22lE)) (B := f22B) Tryd.func22 (by kernel_rfl) (by kernel_rfl) (by kernel_rfl) tabOk f22GOk (by kernel_rfl) (by kernel_rfl) (by kernel_rfl) (by kernel_rfl) fun X hb hp => by
    obtain ⟨v0, _⟩ := X
    obtain ⟨N, h⟩ := h v0 hb.1 hp
    exact ⟨N, (f22m N v0).trans (h N (Nat.le_refl N))⟩
theorem e22ok : EntryOk Tryd.prog 22 e22 := f22ok impl_FormatInts.ok
end Go.Fw
namespace Go.Fw
variable {ρ : Type}
open Go.Proofs
noncomputable def f8sig : Sig := ⟨[⟨.pair (.int .i64) (.sl 46 (.pair (.sl 3 (.int .i64)) (.int .i64))), true, false⟩], [⟨.str, false, false⟩]⟩
noncomputable def e8 : Entry := ⟨f8sig, none, fun X => ((), ((impl_FormatLaurent.g X.1), ()))⟩
noncomputable def f8G : Gm := addG (addG (addG (addG emptyG 20 e20) 21 e21) 22 e22) 23 e23
theorem f8GOk : GOk Tryd.prog f8G := ((((GOk.nil).add e20ok (by kernel_rfl)).add e21ok (by kernel_rfl)).add e22ok (by kernel_rfl)).add e23ok (by kernel_rfl)
noncomputable def f8lE : Clean := ⟨[], [], [], [], []⟩
noncomputable def f8s0 (v0 : Int × List (LI × Int)) : St := initSt f8sig.ps (v0, ())
noncomputable def f8s1 (v1_0 : Int) (v1_1 : List (LI × Int)) : St := stOf [(1, xb 1)] [(1, (29, [yi v1_0, .sn 46 (.pair (.sl 3 tI) tI) v1_1 none]))] []
noncomputable def f8l1 : Clean := ⟨[1], [1], [], [], []⟩
noncomputable def f8s2 (v1_0 : Int) (v1_1 : List (LI × Int)) : St := stOf [(1, xb 1), (3, .c (.nil))] [(1, (29, [yi v1_0, .sn 46 (.pair (.sl 3 tI) tI) v1_1 none]))] []
noncomputable def f8l2 : Clean := ⟨[1, 3], [1], [], [], []⟩
noncomputable def f8s3 (v10 : List (LI × Int)) (v11 v12 v1_0 : Int) (v1_1 : List (LI × Int)) : St := stOf [(1, xb 1), (3, .c (.nil)), (10, .c (.sn 46 (.pair (.sl 3 tI) tI) v10 none)), (11, xi v11), (12, xi v12)] [(1, (29, [yi v1_0, .sn 46 (.pair (.sl 3 tI) tI) v1_1 none]))] []
noncomputable def f8l3 : Clean := ⟨[1, 3, 10, 11, 12], [1], [], [], []⟩
noncomputable def f8s4 (v3 : List ByteArray) (v10 : List (LI × Int)) (v11 v12 v1_0 : Int) (v1_1 : List (LI × Int)) : St := stOf [(1, xb 1), (3, xo 1000192), (10, .c (.sn 46 (.pair (.sl 3 tI) tI) v10 none)), (11, xi v11), (12, xi v12)] [(1, (29, [yi v1_0, .sn 46 (.pair (.sl 3 tI) tI) v1_1 none]))] [(1000192, (⟨9, .str, v3, true, false⟩ : Row))]
noncomputable def f8l4 : Clean := ⟨[1, 3, 10, 11, 12], [1], [⟨⟨false, 3, 0⟩, 30000000, 9, .str, true⟩], [], [(⟨false, 3, 0⟩, 1000192)]⟩
noncomputable def f8s5 (v3 : List ByteArray) (v1_0 : Int) (v1_1 : List (LI × Int)) : St := stOf [(1, xb 1), (3, xo 1000192)] [(1, (29, [yi v1_0, .sn 46 (.pair (.sl 3 tI) tI) v1_1 none]))] [(1000192, (⟨9, .str, v3, true, false⟩ : Row))]
noncomputable def f8l5 : Clean := ⟨[1, 3], [1], [], [], [(⟨false, 3, 0⟩, 1000192)]⟩
noncomputable def f8s6 (v2 : ByteArray) : St := stOf [(2, .c (.str v2))] [] []
noncomputable def f8l6 : Clean := ⟨[2], [], [], [], []⟩
noncomputable def f8B : Nat → Option Clean := lookL [(0, f8l5), (1000000, f8l6)]
noncomputable abbrev f8i {ρ : Type} (N : Nat) (c : Code) (p : Plan) (σ : St) (K : KT ρ) : Option ρ := iCode f8G tab f8B N c p σ K
noncomputable def f8c (n : Nat) : Code := codeN 99 (bodyOf Tryd.f8) n
theorem f8t1 N v0 (K : KT ρ) : f8i N (f8c 2) .n (f8s0 v0) (joinK (some f8l1) K) =
  impl_FormatLaurent.Z1 N v0 (fun v1_0 v1_1 => K .nrm (f8s1 v1_0 v1_1)) := by kernel_rfl
theorem f8t3 N v1_0 v1_1 (K : KT ρ) : f8i N (f8c 5) .n (f8s1 v1_0 v1_1) (joinK (some f8l1) K) =
  impl_FormatLaurent.Z3 N v1_0 v1_1 (fun v1_0 v1_1 => K .nrm (f8s1 v1_0 v1_1)) (fun v2 => K .ret (f8s6 v2)) := by kernel_rfl
theorem f8t5 N v1_0 v1_1 (K : KT ρ) : f8i N (f8c 11) .n (f8s1 v1_0 v1_1) (joinK (some f8l2) K) =
  impl_FormatLaurent.Z5 N v1_0 v1_1 (fun v1_0 v1_1 => K .nrm (f8s2 v1_0 v1_1)) := by kernel_rfl
theorem f8t8 N v1_0 v1_1 (K : KT ρ) : f8i N (f8c 39) .n (f8s2 v1_0 v1_1) (joinK (some f8l3) K) =
  impl_FormatLaurent.Z8 N v1_0 v1_1 (fun v10 v11 v12 v1_0 v1_1 => K .nrm (f8s3 v10 v11 v12 v1_0 v1_1)) := by kernel_rfl
theorem f8t11 N v3 v10 v11 v12 v1_0 v1_1 (K : KT ρ) : f8i N (f8c 151) .n (f8s4 v3 v10 v11 v12 v1_0 v1_1) (joinK (some f8l4) K) =
  impl_FormatLaurent.Z11 N v3 v10 v11 v12 v1_0 v1_1 (fun v3 v10 v11 v12 v1_0 v1_1 => K .nrm (f8s4 v3 v10 v11 v12 v1_0 v1_1)) (fun v3 v1_0 v1_1 => K (.exit 0) (f8s5 v3 v1_0 v1_1)) := by kernel_rfl
noncomputable def f8p10 : Plan := .mk none (some f8l4) .n .n
noncomputable abbrev f8w10 {ρ : Type} (N M : Nat) (σ : St) (K : KT ρ) : Option ρ := loopC (fun σ K => f8i N (f8c 151) .n σ K) f8l4 M σ K
theorem f8t10L {ρ : Type} (N : Nat) (K : KT ρ) : ∀ (M : Nat) (v3 : List ByteArray) (v10 : List (LI × Int)) (v11 v12 v1_0 : Int) (v1_1 : List (LI × Int)), f8w10 N M (f8s4 v3 v10 v11 v12 v1_0 v1_1) K =
  impl_FormatLaurent.Z10L N (fun v3 v1_0 v1_1 => K (.exit 0) (f8s5 v3 v1_0 v1_1)) M v3 v10 v11 v12 v1_0 v1_1
  | 0, _, _, _, _, _, _ => rfl
  | M + 1, v3, v10, v11, v12, v1_0, v1_1 => viaRoundS (fun k => impl_FormatLaurent.Z11 N v3 v10 v11 v12 v1_0 v1_1 k (fun v3 v1_0 v1_1 => K (.exit 0) (f8s5 v3 v1_0 v1_1))) (f8t11 N (K := seqK (fun σ => f8w10 N M σ K) K) ..) (fx6 fun v3 v10 v11 v12 v1_0 v1_1 => f8t10L N K M v3 v10 v11 v12 v1_0 v1_1) (by kernel_rfl)
theorem f8t10 N v10 v11 v12 v1_0 v1_1 (K : KT ρ) : f8i N (f8c 87) f8p10 (f8s3 v10 v11 v12 v1_0 v1_1) (joinK (some f8l5) K) =
  impl_FormatLaurent.Z10 N v10 v11 v12 v1_0 v1_1 (fun v3 v1_0 v1_1 => K (.exit 0) (f8s5 v3 v1_0 v1_1)) :=
 viaLoopS (by kernel_rfl) (f8t10L N (joinK (some f8l5) K) N ([] : List ByteArray) v10 v11 v12 v1_0 v1_1) (by kernel_rfl)
noncomputable def f8p9 : Plan := .mk (some f8l5) none f8p10 .n
theorem f8t9 N v10 v11 v12 v1_0 v1_1 (K : KT ρ) : f8i N (f8c 55) f8p9 (f8s3 v10 v11 v12 v1_0 v1_1) (joinK (some f8l5) K) =
  impl_FormatLaurent.Z9 N v10 v11 v12 v1_0 v1_1 (fun v3 v1_0 v1_1 => K .nrm (f8s5 v3 v1_0 v1_1)) :=
 viaBlockS (by kernel_rfl) (f8t10 N (K := blockK 0 (joinK (some f8l5) K)) ..) (by kernel_rfl)
noncomputable def f8p7 : Plan := .mk (some f8l3) none .n f8p9
theorem f8t7 N v1_0 v1_1 (K : KT ρ) : f8i N (f8c 23) f8p7 (f8s2 v1_0 v1_1) (joinK (some f8l5) K) =
  impl_FormatLaurent.Z7 N v1_0 v1_1 (fun v3 v1_0 v1_1 => K .nrm (f8s5 v3 v1_0 v1_1)) :=
 viaSeqS (fun k => impl_FormatLaurent.Z8 N v1_0 v1_1 k) (by kernel_rfl) (f8t8 N (K := seqK (fun σ => f8i N (f8c 55) f8p9 σ (joinK (some f8l5) K)) (joinK (some f8l5) K)) ..) (fx5 fun v10 v11 v12 v1_0 v1_1 => f8t9 N v10 v11 v12 v1_0 v1_1 K) (by kernel_rfl)
theorem f8t12 N v3 v1_0 v1_1 (K : KT ρ) : f8i N (f8c 31) .n (f8s5 v3 v1_0 v1_1) (joinK (some f8lE) K) =
  impl_FormatLaurent.Z12 N v3 v1_0 v1_1 (fun v2 => K .ret (f8s6 v2)) := by kernel_rfl
noncomputable def f8p6 : Plan := .mk (some f8l5) none f8p7 .n
theorem f8t6 N v1_0 v1_1 (K : KT ρ) : f8i N (f8c 15) f8p6 (f8s2 v1_0 v1_1) (joinK (some f8lE) K) =
  impl_FormatLaurent.Z6 N v1_0 v1_1 (fun v2 => K .ret (f8s6 v2)) :=
 viaSeqS (fun k => impl_FormatLaurent.Z7 N v1_0 v1_1 k) (by kernel_rfl) (f8t7 N (K := seqK (fun σ => f8i N (f8c 31) .n σ (joinK (some f8lE) K)) (joinK (some f8lE) K)) ..) (fx3 fun v3 v1_0 v1_1 => f8t12 N v3 v1_0 v1_1 K) (by kernel_rfl)
noncomputable def f8p4 : Plan := .mk (some f8l2) none .n f8p6
theorem f8t4 N v1_0 v1_1 (K : KT ρ) : f8i N (f8c 7) f8p4 (f8s1 v1_0 v1_1) (joinK (some f8lE) K) =
  impl_FormatLaurent.Z4 N v1_0 v1_1 (fun v2 => K .ret (f8s6 v2)) :=
 viaSeqS (fun k => impl_FormatLaurent.Z5 N v1_0 v1_1 k) (by kernel_rfl) (f8t5 N (K := seqK (fun σ => f8i N (f8c 15) f8p6 σ (joinK (some f8lE) K)) (joinK (some f8lE) K)) ..) (fx2 fun v1_0 v1_1 => f8t6 N v1_0 v1_1 K) (by kernel_rfl)
noncomputable def f8p2 : Plan := .mk (some f8l1) none .n f8p4
theorem f8t2 N v1_0 v1_1 (K : KT ρ) : f8i N (f8c 3) f8p2 (f8s1 v1_0 v1_1) (joinK (some f8lE) K) =
  impl_FormatLaurent.Z2 N v1_0 v1_1 (fun v2 => K .ret (f8s6 v2)) :=
 viaSeqS (fun k => impl_FormatLaurent.Z3 N v1_0 v1_1 k (fun v2 => K .ret (f8s6 v2))) (by kernel_rfl) (f8t3 N (K := seqK (fun σ => f8i N (f8c 7) f8p4 σ (joinK (some f8lE) K)) (joinK (some f8lE) K)) ..) (fx2 fun v1_0 v1_1 => f8t4 N v1_0 v1_1 K) (by kernel_rfl)
noncomputable def f8p0 : Plan := .mk (some f8l1) none .n f8p2
theorem f8t0 N v0 (K : KT ρ) : f8i N (f8c 1) f8p0 (f8s0 v0) (joinK (some f8lE) K) =
  impl_FormatLaurent.Z0 N v0 (fun v2 => K .ret (f8s6 v2)) :=
 viaSeqS (fun k => impl_FormatLaurent.Z1 N v0 k) (by kernel_rfl) (f8t1 N (K := seqK (fun σ => f8i N (f8c 3) f8p2 σ (joinK (some f8lE) K)) (joinK (some f8lE) K)) ..) (fx2 fun v1_0 v1_1 => f8t2 N v1_0 v1_1 K) (by kernel_rfl)
theorem f8m (N : Nat) (v0 : Int × List (LI × Int)) : f8i N (f8c 1) f8p0 (f8s0 v0) (joinK (some f8lE) (finK tab f8sig Tryd.f8.results.toList)) = impl_FormatLaurent.Z0 N v0 (fun v2 => some ((), (v2, ()))) :=
  (f8t0 N v0 (finK tab f8sig Tryd.f8.results.toList)).trans (by kernel_rfl)
theorem f8ok (h : impl_FormatLaurent.Spec) : EntryOk Tryd.prog 8 e8 :=
  entry_of_code (sig := f8sig) (c := (f8c 1)) (pl := f8p0) (je := (some f8lE)) (B := f8B) Tryd.func8 (by kernel_rfl) (by kernel_rfl) (by kernel_rfl) tabOk f8GOk (by kernel_rfl) (by kernel_rfl) (by kernel_rfl) (by kernel_rfl) fun X hb hp => by
    obtain ⟨v0, _⟩ := X
    obtain ⟨N, h⟩ := h v0 hb.1
    exact ⟨N, (f8m N v0).trans (h N (Nat.le_refl N))⟩
theorem e8ok : EntryOk Tryd.prog 8 e8 := f8ok impl_FormatLaurent.ok
end Go.Fw
namespace Go.Fw
variable {ρ : Type}
open Go.Proofs
noncomputable def f30sig : Sig := ⟨[⟨.sl 3 (.int .i64), false, false⟩, ⟨.sl 3 (.int .i64), false, false⟩], [⟨.bool, false, false⟩]⟩
noncomputable def e30 : Entry := ⟨f30sig, none, fun X => ((), ((laws_eqIntS.g X.1 X.2.1), ()))⟩
noncomputable def f30G : Gm := emptyG
theorem f30GOk : GOk Tryd.prog f30G := GOk.nil
noncomputable def f30lE : Clean := ⟨[], [], [], [], []⟩
noncomputable def f30s0 (v0 v1 : LI) : St := initSt f30sig.ps (v0, (v1, ()))
noncomputable def f30s1 (v0 v1 : LI) : St := stOf [(0, .c (.sn 3 tI v0 none)), (1, .c (.sn 3 tI v1 none))] [] []
noncomputable def f30l1 : Clean := ⟨[0, 1], [], [], [], []⟩
noncomputable def f30s2 (v0 v1 : LI) (v5 : Int) : St := stOf [(0, .c (.sn 3 tI v0 none)), (1, .c (.sn 3 tI v1 none)), (5, xi v5)] [] []
noncomputable def f30l2 : Clean := ⟨[0, 1, 5], [], [], [], []⟩
noncomputable def f30s3  : St := stOf [] [] []
noncomputable def f30l3 : Clean := ⟨[], [], [], [], []⟩
noncomputable def f30s4 (v4 : Bool) : St := stOf [(4, xB v4)] [] []
noncomputable def f30l4 : Clean := ⟨[4], [], [], [], []⟩
noncomputable def f30B : Nat → Option Clean := lookL [(0, f30l3), (1000000, f30l4)]
noncomputable abbrev f30i {ρ : Type} (N : Nat) (c : Code) (p : Plan) (σ : St) (K : KT ρ) : Option ρ := iCode f30G tab f30B N c p σ K
noncomputable def f30c (n : Nat) : Code := codeN 99 (bodyOf Tryd.f30) n
theorem f30t1 N v0 v1 (K : KT ρ) : f30i N (f30c 2) .n (f30s0 v0 v1) (joinK (some f30l1) K) =
  laws_eqIntS.Z1 N v0 v1 (fun v0 v1 => K .nrm (f30s1 v0 v1)) := by kernel_rfl
theorem f30t3 N v0 v1 (K : KT ρ) : f30i N (f30c 5) .n (f30s1 v0 v1) (joinK (some f30l1) K) =
  laws_eqIntS.Z3 N v0 v1 (fun v0 v1 => K .nrm (f30s1 v0 v1)) (fun v4 => K .ret (f30s4 v4)) := by kernel_rfl
theorem f30t6 N v0 v1 (K : KT ρ) : f30i N (f30c 19) .n (f30s1 v0 v1) (joinK (some f30l2) K) =
  laws_eqIntS.Z6 N v0 v1 (fun v0 v1 v5 => K .nrm (f30s2 v0 v1 v5)) := by kernel_rfl
theorem f30t9 N v0 v1 v5 (K : KT ρ) : f30i N (f30c 75) .n (f30s2 v0 v1 v5) (joinK (some f30l2) K) =
  laws_eqIntS.Z9 N v0 v1 v5 (fun v0 v1 v5 => K .nrm (f30s2 v0 v1 v5)) (K (.exit 0) f30s3) (fun v4 => K .ret (f30s4 v4)) := by kernel_rfl
noncomputable def f30p8 : Plan := .mk none (some f30l2) .n .n
noncomputable abbrev f30w8 {ρ : Type} (N M : Nat) (σ : St) (K : KT ρ) : Option ρ := loopC (fun σ K => f30i N (f30c 75) .n σ K) f30l2 M σ K
theorem f30t8L {ρ : Type} (N : Nat) (K : KT ρ) : ∀ (M : Nat) (v0 v1 : LI) (v5 : Int), f30w8 N M (f30s2 v0 v1 v5) K =
  laws_eqIntS.Z8L N (K (.exit 0) f30s3) (fun v4 => K .ret (f30s4 v4)) M v0 v1 v5
  | 0, _, _, _ => rfl
  | M + 1, v0, v1, v5 => viaRoundS (fun k => laws_eqIntS.Z9 N v0 v1 v5 k (K (.exit 0) f30s3) (fun v4 => K .ret (f30s4 v4))) (f30t9 N (K := seqK (fun σ => f30w8 N M σ K) K) ..) (fx3 fun v0 v1 v5 => f30t8L N K M v0 v1 v5) (by kernel_rfl)
theorem f30t8 N v0 v1 v5 (K : KT ρ) : f30i N (f30c 43) f30p8 (f30s2 v0 v1 v5) (joinK (some f30l3) K) =
  laws_eqIntS.Z8 N v0 v1 v5 (K (.exit 0) f30s3) (fun v4 => K .ret (f30s4 v4)) :=
 viaLoopS (by kernel_rfl) (f30t8L N (joinK (some f30l3) K) N v0 v1 v5) (by kernel_rfl)
noncomputable def f30p7 : Plan := .mk (some f30l3) none f30p8 .n
theorem f30t7 N v0 v1 v5 (K : KT ρ) : f30i N (f30c 27) f30p7 (f30s2 v0 v1 v5) (joinK (some f30l3) K) =
  laws_eqIntS.Z7 N v0 v1 v5 (K .nrm f30s3) (fun v4 => K .ret (f30s4 v4)) :=
 viaBlockS (by kernel_rfl) (f30t8 N (K := blockK 0 (joinK (some f30l3) K)) ..) (by kernel_rfl)
noncomputable def f30p5 : Plan := .mk (some f30l2) none .n f30p7
theorem f30t5 N v0 v1 (K : KT ρ) : f30i N (f30c 11) f30p5 (f30s1 v0 v1) (joinK (some f30l3) K) =
  laws_eqIntS.Z5 N v0 v1 (K .nrm f30s3) (fun v4 => K .ret (f30s4 v4)) :=
 viaSeqS (fun k => laws_eqIntS.Z6 N v0 v1 k) (by kernel_rfl) (f30t6 N (K := seqK (fun σ => f30i N (f30c 27) f30p7 σ (joinK (some f30l3) K)) (joinK (some f30l3) K)) ..) (fx3 fun v0 v1 v5 => f30t7 N v0 v1 v5 K) (by kernel_rfl)
theorem f30t10 N  (K : KT ρ) : f30i N (f30c 15) .n f30s3 (joinK (some f30lE) K) =
  laws_eqIntS.Z10 N (fun v4 => K .ret (f30s4 v4)) := by kernel_rfl
noncomputable def f30p4 : Plan := .mk (some f30l3) none f30p5 .n
theorem f30t4 N v0 v1 (K : KT ρ) : f30i N (f30c 7) f30p4 (f30s1 v0 v1) (joinK (some f30lE) K) =
  laws_eqIntS.Z4 N v0 v1 (fun v4 => K .ret (f30s4 v4)) :=
 viaSeqS (fun k => laws_eqIntS.Z5 N v0 v1 k (fun v4 => K .ret (f30s4 v4))) (by kernel_rfl) (f30t5 N (K := seqK (fun σ => f30i N (f30c 15) .n σ (joinK (some f30lE) K)) (joinK (some f30lE) K)) ..) (f30t10 N K) (by kernel_rfl)
noncomputable def f30p2 : Plan := .mk (some f30l1) none .n f30p4
theorem f30t2 N v0 v1 (K : KT ρ) : f30i N (f30c 3) f30p2 (f30s1 v0 v1) (joinK (some f30lE) K) =
  laws_eqIntS.Z2 N v0 v1 (fun v4 => K .ret (f30s4 v4)) :=
 viaSeqS (fun k => laws_eqIntS.Z3 N v0 v1 k (fun v4 => K .ret (f30s4 v4))) (by kernel_rfl) (f30t3 N (K := seqK (fun σ => f30i N (f30c 7) f30p4 σ (joinK (some f30lE) K)) (joinK (some f30lE) K)) ..) (fx2 fun v0 v1 => f30t4 N v0 v1 K) (by kernel_rfl)
noncomputable def f30p0 : Plan := .mk (some f30l1) none .n f30p2
theorem f30t0 N v0 v1 (K : KT ρ) : f30i N (f30c 1) f30p0 (f30s0 v0 v1) (joinK (some f30lE) K) =
  laws_eqIntS.Z0 N v0 v1 (fun v4 => K .ret (f30s4 v4)) :=
 viaSeqS (fun k => laws_eqIntS.Z1 N v0 v1 k) (by kernel_rfl) (f30t1 N (K := seqK (fun σ => f30i N (f30c 3) f30p2 σ (joinK (some f30lE) K)) (joinK (some f30lE) K)) ..) (fx2 fun v0 v1 => f30t2 N v0 v1 K) (by kernel_rfl)
theorem f30m (N : Nat) (v0 v1 : LI) : f30i N (f30c 1) f30p0 (f30s0 v0 v1) (joinK (some f30lE) (finK tab f30sig Tryd.f30.results.toList)) = laws_eqIntS.Z0 N v0 v1 (fun v4 => some ((), (v4, ()))) :=
  (f30t0 N v0 v1 (finK tab f30sig Tryd.f30.results.toList)).trans (by kernel_rfl)
theorem f30ok (h : laws_eqIntS.Spec) : EntryOk Tryd.prog 30 e30 :=
  entry_of_code (sig := f30sig) (c := (f30c 1)) (pl := f30p0) (je := (some f30lE)) (B := f30B) Tryd.func30 (by kernel_rfl) (by kernel_rfl) (by kernel_rfl) tabOk f30GOk (by kernel_rfl) (by kernel_rfl) (by kernel_rfl) (by kernel_rfl) fun X hb hp => by
    obtain ⟨v0, v1, _⟩ := X
    obtain ⟨N, h⟩ := h v0 v1 hb.1 hb.2.1
    exact ⟨N, (f30m N v0 v1).trans (h N (Nat.le_refl N))⟩
theorem e30ok : EntryOk Tryd.prog 30 e30 := f30ok laws_eqIntS.ok
end Go.Fw
namespace Go.Fw
variable {ρ : Type}
open Go.Proofs
noncomputable def f43sig : Sig := ⟨[⟨.pair (.sl 3 (.int .i64)) (.int .i64), true, false⟩, ⟨.pair (.sl 3 (.int .i64)) (.int .i64), true, false⟩], [⟨.bool, false, false⟩]⟩
noncomputable def e43 : Entry := ⟨f43sig, none, fun X => ((), ((laws_eqTerm.g X.1 X.2.1), ()))⟩
noncomputable def f43G : Gm := addG emptyG 30 e30
theorem f43GOk : GOk Tryd.prog f43G := (GOk.nil).add e30ok (by kernel_rfl)
noncomputable def f43lE : Clean := ⟨[], [], [], [], []⟩
noncomputable def f43s0 (v0 v1 : LI × Int) : St := initSt f43sig.ps (v0, (v1, ()))
noncomputable def f43s1 (v4 : Bool) : St := stOf [(4, xB v4)] [] []
noncomputable def f43l1 : Clean := ⟨[4], [], [], [], []⟩
noncomputable def f43B : Nat → Option Clean := lookL [(1000000, f43l1)]
noncomputable abbrev f43i {ρ : Type} (N : Nat) (c : Code) (p : Plan) (σ : St) (K : KT ρ) : Option ρ := iCode f43G tab f43B N c p σ K
noncomputable def f43c (n : Nat) : Code := codeN 99 (bodyOf Tryd.f43) n
theorem f43t0 N v0 v1 (K : KT ρ) : f43i N (f43c 1) .n (f43s0 v0 v1) (joinK (some f43lE) K) =
  laws_eqTerm.Z0 N v0 v1 (fun v4 => K .ret (f43s1 v4)) := by kernel_rfl
theorem f43m (N : Nat) (v0 v1 : LI × Int) : f43i N (f43c 1) .n (f43s0 v0 v1) (joinK (some f43lE) (finK tab f43sig Tryd.f43.results.toList)) = laws_eqTerm.Z0 N v0 v1 (fun v4 => some ((), (v4, ()))) :=
  (f43t0 N v0 v1 (finK tab f43sig Tryd.f43.results.toList)).trans (by kernel_rfl)
theorem f43ok (h : laws_eqTerm.Spec) : EntryOk Tryd.prog 43 e43 :=
  entry_of_code (sig := f43sig) (c := (f43c 1)) (pl := .n) (je := (some f43lE)) (B := f43B) Tryd.func43 (by kernel_rfl) (by kernel_rfl) (by kernel_rfl) tabOk f43GOk (by kernel_rfl) (by kernel_rfl) (by kernel_rfl) (by kernel_rfl) fun X hb hp => by
    obtain ⟨v0, v1, _⟩ := X
    obtain ⟨N, h⟩ := h v0 v1 hb.1 hb.2.1
    exact ⟨N, (f43m N v0 v1).trans (h N (Nat.le_refl N))⟩
theorem e43ok : EntryOk Tryd.prog 43 e43 := f43ok laws_eqTerm.ok
end Go.Fw
namespace Go.Fw
variable {ρ : Type}
open Go.Proofs
noncomputable def f24sig : Sig := ⟨[⟨.sl 46 (.pair (.sl 3 (.int .i64)) (.int .i64)), false, false⟩, ⟨.sl 46 (.pair (.sl 3 (.int .i64)) (.int .i64)), false, false⟩], [⟨.bool, false, false⟩]⟩
noncomputable def e24 : Entry := ⟨f24sig, none, fun X => ((), ((laws_eqTermS.g X.1 X.2.1), ()))⟩
noncomputable def f24G : Gm := addG emptyG 43 e43
theorem f24GOk : GOk Tryd.prog f24G := (GOk.nil).add e43ok (by kernel_rfl)
noncomputable def f24lE : Clean := ⟨[], [], [], [], []⟩
noncomputable def f24s0 (v0 v1 : List (LI × Int)) : St := initSt f24sig.ps (v0, (v1, ()))
noncomputable def f24s1 (v0 v1 : List (LI × Int)) : St := stOf [(0, .c (.sn 46 (.pair (.sl 3 tI) tI) v0 none)), (1, .c (.sn 46 (.pair (.sl 3 tI) tI) v1 none))] [] []
noncomputable def f24l1 : Clean := ⟨[0, 1], [], [], [], []⟩
noncomputable def f24s2 (v0 v1 : List (LI × Int)) (v5 : Int) : St := stOf [(0, .c (.sn 46 (.pair (.sl 3 tI) tI) v0 none)), (1, .c (.sn 46 (.pair (.sl 3 tI) tI) v1 none)), (5, xi v5)] [] []
noncomputable def f24l2 : Clean := ⟨[0, 1, 5], [], [], [], []⟩
noncomputable def f24s3  : St := stOf [] [] []
noncomputable def f24l3 : Clean := ⟨[], [], [], [], []⟩
noncomputable def f24s4 (v4 : Bool) : St := stOf [(4, xB v4)] [] []
noncomputable def f24l4 : Clean := ⟨[4], [], [], [], []⟩
noncomputable def f24B : Nat → Option Clean := lookL [(0, f24l3), (1000000, f24l4)]
noncomputable abbrev f24i {ρ : Type} (N : Nat) (c : Code) (p : Plan) (σ : St) (K : KT ρ) : Option ρ := iCode f24G tab f24B N c p σ K
noncomputable def f24c (n : Nat) : Code := codeN 99 (bodyOf Tryd.f24) n
theorem f24t1 N v0 v1 (K : KT ρ) : f24i N (f24c 2) .n (f24s0 v0 v1) (joinK (some f24l1) K) =
  laws_eqTermS.Z1 N v0 v1 (fun v0 v1 => K .nrm (f24s1 v0 v1)) := by kernel_rfl
theorem f24t3 N v0 v1 (K : KT ρ) : f24i N (f24c 5) .n (f24s1 v0 v1) (joinK (some f24l1) K) =
  laws_eqTermS.Z3 N v0 v1 (fun v0 v1 => K .nrm (f24s1 v0 v1)) (fun v4 => K .ret (f24s4 v4)) := by kernel_rfl
theorem f24t6 N v0 v1 (K : KT ρ) : f24i N (f24c 19) .n (f24s1 v0 v1) (joinK (some f24l2) K) =
  laws_eqTermS.Z6 N v0 v1 (fun v0 v1 v5 => K .nrm (f24s2 v0 v1 v5)) := by kernel_rfl
theorem f24t9 N v0 v1 v5 (K : KT ρ) : f24i N (f24c 75) .n (f24s2 v0 v1 v5) (joinK (some f24l2) K) =
  laws_eqTermS.Z9 N v0 v1 v5 (fun v0 v1 v5 => K .nrm (f24s2 v0 v1 v5)) (K (.exit 0) f24s3) (fun v4 => K .ret (f24s4 v4)) := by kernel_rfl
noncomputable def f24p8 : Plan := .mk none (some f24l2) .n .n
noncomputable abbrev f24w8 {ρ : Type} (N M : Nat) (σ : St) (K : KT ρ) : Option ρ := loopC (fun σ K => f24i N (f24c 75) .n σ K) f24l2 M σ K
theorem f24t8L {ρ : Type} (N : Nat) (K : KT ρ) : ∀ (M : Nat) (v0 v1 : List (LI × Int)) (v5 : Int), f24w8 N M (f24s2 v0 v1 v5) K =
  laws_eqTermS.Z8L N (K (.exit 0) f24s3) (fun v4 => K .ret (f24s4 v4)) M v0 v1 v5
  | 0, _, _, _ => rfl
  | M + 1, v0, v1, v5 => viaRoundS (fun k => laws_eqTermS.Z9 N v0 v1 v5 k (K (.exit 0) f24s3) (fun v4 => K .ret (f24s4 v4))) (f24t9 N (K := seqK (fun σ => f24w8 N M σ K) K) ..) (fx3 fun v0 v1 v5 => f24t8L N K M v0 v1 v5) (by kernel_rfl)
theorem f24t8 N v0 v1 v5 (K : KT ρ) : f24i N (f24c 43) f24p8 (f24s2 v0 v1 v5) (joinK (some f24l3) K) =
  laws_eqTermS.Z8 N v0 v1 v5 (K (.exit 0) f24s3) (fun v4 => K .ret (f24s4 v4)) :=
 viaLoopS (by kernel_rfl) (f24t8L N (joinK (some f24l3) K) N v0 v1 v5) (by kernel_rfl)
noncomputable def f24p7 : Plan := .mk (some f24l3) none f24p8 .n
theorem f24t7 N v0 v1 v5 (K : KT ρ) : f24i N (f24c 27) f24p7 (f24s2 v0 v1 v5) (joinK (some f24l3) K) =
  laws_eqTermS.Z7 N v0 v1 v5 (K .nrm f24s3) (fun v4 => K .ret (f24s4 v4)) :=
 viaBlockS (by kernel_rfl) (f24t8 N (K := blockK 0 (joinK (some f24l3) K)) ..) (by kernel_rfl)
noncomputable def f24p5 : Plan := .mk (some f24l2) none .n f24p7
theorem f24t5 N v0 v1 (K : KT ρ) : f24i N (f24c 11) f24p5 (f24s1 v0 v1) (joinK (some f24l3) K) =
  laws_eqTermS.Z5 N v0 v1 (K .nrm f24s3) (fun v4 => K .ret (f24s4 v4)) :=
 viaSeqS (fun k => laws_eqTermS.Z6 N v0 v1 k) (by kernel_rfl) (f24t6 N (K := seqK (fun σ => f24i N (f24c 27) f24p7 σ (joinK (some f24l3) K)) (joinK (some f24l3) K)) ..) (fx3 fun v0 v1 v5 => f24t7 N v0 v1 v5 K) (by kernel_rfl)
theorem f24t10 N  (K : KT ρ) : f24i N (f24c 15) .n f24s3 (joinK (some f24lE) K) =
  laws_eqTermS.Z10 N (fun v4 => K .ret (f24s4 v4)) := by kernel_rfl
noncomputable def f24p4 : Plan := .mk (some f24l3) none f24p5 .n
theorem f24t4 N v0 v1 (K : KT ρ) : f24i N (f24c 7) f24p4 (f24s1 v0 v1) (joinK (some f24lE) K) =
  laws_eqTermS.Z4 N v0 v1 (fun v4 => K .ret (f24s4 v4)) :=
 viaSeqS (fun k => laws_eqTermS.Z5 N v0 v1 k (fun v4 => K .ret (f24s4 v4))) (by kernel_rfl) (f24t5 N (K := seqK (fun σ => f24i N (f24c 15) .n σ (joinK (some f24lE) K)) (joinK (some f24lE) K)) ..) (f24t10 N K) (by kernel_rfl)
noncomputable def f24p2 : Plan := .mk (some f24l1) none .n f24p4
theorem f24t2 N v0 v1 (K : KT ρ) : f24i N (f24c 3) f24p2 (f24s1 v0 v1) (joinK (some f24lE) K) =
  laws_eqTermS.Z2 N v0 v1 (fun v4 => K .ret (f24s4 v4)) :=
 viaSeqS (fun k => laws_eqTermS.Z3 N v0 v1 k (fun v4 => K .ret (f24s4 v4))) (by kernel_rfl) (f24t3 N (K := seqK (fun σ => f24i N (f24c 7) f24p4 σ (joinK (some f24lE) K)) (joinK (some f24lE) K)) ..) (fx2 fun v0 v1 => f24t4 N v0 v1 K) (by kernel_rfl)
noncomputable def f24p0 : Plan := .mk (some f24l1) none .n f24p2
theorem f24t0 N v0 v1 (K : KT ρ) : f24i N (f24c 1) f24p0 (f24s0 v0 v1) (joinK (some f24lE) K) =
  laws_eqTermS.Z0 N v0 v1 (fun v4 => K .ret (f24s4 v4)) :=
 viaSeqS (fun k => laws_eqTermS.Z1 N v0 v1 k) (by kernel_rfl) (f24t1 N (K := seqK (fun σ => f24i N (f24c 3) f24p2 σ (joinK (some f24lE) K)) (joinK (some f24lE) K)) ..) (fx2 fun v0 v1 => f24t2 N v0 v1 K) (by kernel_rfl)
theorem f24m (N : Nat) (v0 v1 : List (LI × Int)) : f24i N (f24c 1) f24p0 (f24s0 v0 v1) (joinK (some f24lE) (finK tab f24sig Tryd.f24.results.toList)) = laws_eqTermS.Z0 N v0 v1 (fun v4 => some ((), (v4, ()))) :=
  (f24t0 N v0 v1 (finK tab f24sig Tryd.f24.results.toList)).trans (by kernel_rfl)
theorem f24ok (h : laws_eqTermS.Spec) : EntryOk Tryd.prog 24 e24 :=
  entry_of_code (sig := f24sig) (c := (f24c 1)) (pl := f24p0) (je := (some f24lE)) (B := f24B) Tryd.func24 (by kernel_rfl) (by kernel_rfl) (by kernel_rfl) tabOk f24GOk (by kernel_rfl) (by kernel_rfl) (by kernel_rfl) (by kernel_rfl) fun X hb hp => by
    obtain ⟨v0, v1, _⟩ := X
    obtain ⟨N, h⟩ := h v0 v1 hb.1 hb.2.1
    exact ⟨N, (f24m N v0 v1).trans (h N (Nat.le_refl N))⟩
theorem e24ok : EntryOk Tryd.prog 24 e24 := f24ok laws_eqTermS.ok
end Go.Fw
namespace Go.Fw
variable {ρ : Type}
open Go.Proofs
noncomputable def f9sig : Sig := ⟨[⟨.pair (.int .i64) (.sl 46 (.pair (.sl 3 (.int .i64)) (.int .i64))), true, false⟩, ⟨.pair (.int .i64) (.sl 46 (.pair (.sl 3 (.int .i64)) (.int .i64))), true, false⟩], [⟨.bool, false, false⟩]⟩
noncomputable def e9 : Entry := ⟨f9sig, none, fun X => ((), ((laws_eqLaurent.g X.1 X.2.1), ()))⟩
noncomputable def f9G : Gm := addG emptyG 24 e24
theorem f9GOk : GOk Tryd.prog f9G := (GOk.nil).add e24ok (by kernel_rfl)
noncomputable def f9lE : Clean := ⟨[], [], [], [], []⟩
noncomputable def f9s0 (v0 v1 : Int × List (LI × Int)) : St := initSt f9sig.ps (v0, (v1, ()))
noncomputable def f9s1 (v4 : Bool) : St := stOf [(4, xB v4)] [] []
noncomputable def f9l1 : Clean := ⟨[4], [], [], [], []⟩
noncomputable def f9B : Nat → Option Clean := lookL [(1000000, f9l1)]
noncomputable abbrev f9i {ρ : Type} (N : Nat) (c : Code) (p : Plan) (σ : St) (K : KT ρ) : Option ρ := iCode f9G tab f9B N c p σ K
noncomputable def f9c (n : Nat) : Code := codeN 99 (bodyOf Tryd.f9) n
theorem f9t0 N v0 v1 (K : KT ρ) : f9i N (f9c 1) .n (f9s0 v0 v1) (joinK (some f9lE) K) =
  laws_eqLaurent.Z0 N v0 v1 (fun v4 => K .ret (f9s1 v4)) := by kernel_rfl
theorem f9m (N : Nat) (v0 v1 : Int × List (LI × Int)) : f9i N (f9c 1) .n (f9s0 v0 v1) (joinK (some f9lE) (finK tab f9sig Tryd.f9.results.toList)) = laws_eqLaurent.Z0 N v0 v1 (fun v4 => some ((), (v4, ()))) :=
  (f9t0 N v0 v1 (finK tab f9sig Tryd.f9.results.toList)).trans (by kernel_rfl)
theorem f9ok (h : laws_eqLaurent.Spec) : EntryOk Tryd.prog 9 e9 :=
  entry_of_code (sig := f9sig) (c := (f9c 1)) (pl := .n) (je := (some f9lE)) (B := f9B) Tryd.func9 (by kernel_rfl) (by kernel_rfl) (by kernel_rfl) tabOk f9GOk (by kernel_rfl) (by kernel_rfl) (by kernel_rfl) (by kernel_rfl) fun X hb hp => by
    obtain ⟨v0, v1, _⟩ := X
    obtain ⟨N, h⟩ := h v0 v1 hb.1 hb.2.1
    exact ⟨N, (f9m N v0 v1).trans (h N (Nat.le_refl N))⟩
theorem e9ok : EntryOk Tryd.prog 9 e9 := f9ok laws_eqLaurent.ok
end Go.Fw
namespace Go.Fw
variable {ρ : Type}
open Go.Proofs
noncomputable def f3sig : Sig := ⟨[⟨.pair (.int .i64) (.sl 59 (.pair (.sl 3 (.int .i64)) (.int .i64))), true, false⟩], [⟨.bool, false, false⟩]⟩
noncomputable def e3 : Entry := ⟨f3sig, none, fun X => ((), ((laws_FnExactFormatLaurent.g X.1), ()))⟩
noncomputable def f3G : Gm := addG (addG (addG (addG (addG emptyG 5 e5) 6 e6) 7 e7) 8 e8) 9 e9
theorem f3GOk : GOk Tryd.prog f3G := (((((GOk.nil).add e5ok (by kernel_rfl)).add e6ok (by kernel_rfl)).add e7ok (by kernel_rfl)).add e8ok (by kernel_rfl)).add e9ok (by kernel_rfl)
noncomputable def f3lE : Clean := ⟨[], [], [], [], []⟩
noncomputable def f3s0 (v0 : Int × List (LI × Int)) : St := initSt f3sig.ps (v0, ())
noncomputable def f3s1 (v2 : Bool) : St := stOf [(2, xB v2)] [] []
noncomputable def f3l1 : Clean := ⟨[2], [], [], [], []⟩
noncomputable def f3B : Nat → Option Clean := lookL [(1000000, f3l1)]
noncomputable abbrev f3i {ρ : Type} (N : Nat) (c : Code) (p : Plan) (σ : St) (K : KT ρ) : Option ρ := iCode f3G tab f3B N c p σ K
noncomputable def f3c (n : Nat) : Code := codeN 99 (bodyOf Tryd.f3) n
theorem f3t0 N v0 (K : KT ρ) : f3i N (f3c 1) .n (f3s0 v0) (joinK (some f3lE) K) =
  laws_FnExactFormatLaurent.Z0 N v0 (fun v2 => K .ret (f3s1 v2)) := by kernel_rfl
theorem f3m (N : Nat) (v0 : Int × List (LI × Int)) : f3i N (f3c 1) .n (f3s0 v0) (joinK (some f3lE) (finK tab f3sig Tryd.f3.results.toList)) = laws_FnExactFormatLaurent.Z0 N v0 (fun v2 => some ((), (v2, ()))) :=
  (f3t0 N v0 (finK tab f3sig Tryd.f3.results.toList)).trans (by kernel_rfl)
theorem f3ok (h : laws_FnExactFormatLaurent.Spec) : EntryOk Tryd.prog 3 e3 :=
  entry_of_code (sig := f3sig) (c := (f3c 1)) (pl := .n) (je := (some f3lE)) (B := f3B) Tryd.func3 (by kernel_rfl) (by kernel_rfl) (by kernel_rfl) tabOk f3GOk (by kernel_rfl) (by kernel_rfl) (by kernel_rfl) (by kernel_rfl) fun X hb hp => by
    obtain ⟨v0, _⟩ := X
    obtain ⟨N, h⟩ := h v0 hb.1
    exact ⟨N, (f3m N v0).trans (h N (Nat.le_refl N))⟩
theorem e3ok : EntryOk Tryd.prog 3 e3 := f3ok laws_FnExactFormatLaurent.ok
end Go.Fw
