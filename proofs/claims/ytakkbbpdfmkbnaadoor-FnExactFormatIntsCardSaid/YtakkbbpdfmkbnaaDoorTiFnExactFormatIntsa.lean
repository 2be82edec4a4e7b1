/- The ties: the program's text comes to the plain functions. Nothing is assumed. -/
import Derived.Test.YtakkbbpdfmkbnaaDoorFza
import Derived.Test.YtakkbbpdfmkbnaaDoorProg
import Derived.Test.YtakkbbpdfmkbnaaDoorPuFnExactFormatIntsa
import Derived.Test.YtakkbbpdfmkbnaaDoorChecked
set_option linter.unusedVariables false
set_option linter.unusedSimpArgs false
set_option maxRecDepth 100000
namespace Go.Fw
open Go.Proofs
def tab : Tab := lookTab [
  (2, ⟨false, .int .i64, [.int .i64 0], [], none, 8⟩),
  (3, ⟨false, .int .i64, [.int .i64 0], [], none, 8⟩),
  (4, ⟨false, .bool, [.bool false], [], none, 1⟩),
  (5, ⟨false, .int .u8, [.int .u8 0], [], none, 1⟩),
  (6, ⟨false, .int .u8, [.int .u8 0], [], none, 1⟩),
  (7, ⟨true, .pair (.int .i64) (.pair (.int .i64) (.pair (.bool) (.int .u8))), [.int .i64 0, .int .i64 0, .bool false, .int .u8 0], [(0, 1, false), (1, 1, false), (2, 1, false), (3, 1, false)], none, 24⟩),
  (8, ⟨true, .pair (.int .i64) (.pair (.int .i64) (.pair (.bool) (.int .u8))), [.int .i64 0, .int .i64 0, .bool false, .int .u8 0], [(0, 1, false), (1, 1, false), (2, 1, false), (3, 1, false)], none, 24⟩),
  (9, ⟨false, .str, [.str ByteArray.empty], [], none, 16⟩),
  (10, ⟨false, .str, [.str ByteArray.empty], [], none, 16⟩),
  (11, ⟨false, .str, [.str ByteArray.empty], [], none, 16⟩),
  (12, ⟨false, .int .u64, [.int .u64 0], [], none, 8⟩),
  (13, ⟨true, .pair (.str) (.int .u64), [.str ByteArray.empty, .int .u64 0], [(0, 1, false), (1, 1, false)], none, 24⟩),
  (14, ⟨true, .pair (.str) (.int .u64), [.str ByteArray.empty, .int .u64 0], [(0, 1, false), (1, 1, false)], none, 24⟩),
  (21, ⟨false, .int .i32, [.int .i32 0], [], none, 4⟩),
  (25, ⟨false, .sl 3 (.int .i64), [.nil], [], some 3, 24⟩),
  (30, ⟨false, .sl 9 (.str), [.nil], [], some 9, 24⟩),
  (39, ⟨false, .sl 5 (.int .u8), [.nil], [], some 5, 24⟩),
  (61, ⟨false, .int .u64, [.int .u64 0], [], none, 8⟩),
  (63, ⟨false, .int .u64, [.int .u64 0], [], none, 8⟩),
  (69, ⟨true, .pair (.int .u8) (.int .u8), [.int .u8 0, .int .u8 0], [(0, 1, false), (1, 1, false)], none, 2⟩),
  (70, ⟨true, .pair (.int .u8) (.int .u8), [.int .u8 0, .int .u8 0], [(0, 1, false), (1, 1, false)], none, 2⟩)]
theorem tabOk : TOk Tryd.prog tab := TOk.of (by kernel_rfl)
noncomputable def tabl : List (String × IntKind × List Int) := [("internal/strconv.uint64pow10", .u64, Lib.pow10Tab)]
noncomputable instance : Inv Tryd.prog := Inv.tabs _ tabl
theorem tab0 (w : World) (h : Inv.I Tryd.prog w) : Lib.TabIs Tryd.prog w "internal/strconv.uint64pow10" .u64 Lib.pow10Tab := Inv.tab_mem ("internal/strconv.uint64pow10", .u64, Lib.pow10Tab) (List.mem_of_getElem? (i := 0) rfl) w h
end Go.Fw
namespace Go.Fw
variable {ρ : Type}
open Go.Proofs
noncomputable def f8sig : Sig := ⟨[⟨.sl 3 (.int .i64), false, false⟩], [⟨.sl 3 (.int .i64), false, false⟩]⟩
noncomputable def e8 : Entry := ⟨f8sig, (some fun X => laws_toIntS.P X.1), fun X => ((), ((laws_toIntS.g X.1), ()))⟩
noncomputable def f8G : Gm := emptyG
theorem f8GOk : GOk Tryd.prog f8G := GOk.nil
noncomputable def f8lE : Clean := ⟨[], [], [], [], []⟩
noncomputable def f8s0 (v0 : LI) : St := initSt f8sig.ps (v0, ())
noncomputable def f8s1 (v0 : LI) : St := stOf [(0, .c (.sn 3 tI v0 none))] [] []
noncomputable def f8l1 : Clean := ⟨[0], [], [], [], []⟩
noncomputable def f8s2 (v3 v0 : LI) : St := stOf [(0, .c (.sn 3 tI v0 none)), (3, xo 1000192)] [] [(1000192, (⟨3, .int .i64, v3, true, false⟩ : Row))]
noncomputable def f8l2 : Clean := ⟨[0, 3], [], [], [], [(⟨false, 3, 0⟩, 1000192)]⟩
noncomputable def f8s3 (v3 v0 : LI) (v4 : Int) : St := stOf [(0, .c (.sn 3 tI v0 none)), (3, xo 1000192), (4, xi v4)] [] [(1000192, (⟨3, .int .i64, v3, true, false⟩ : Row))]
noncomputable def f8l3 : Clean := ⟨[0, 3, 4], [], [], [], [(⟨false, 3, 0⟩, 1000192)]⟩
noncomputable def f8s4 (v3 : LI) : St := stOf [(3, xo 1000192)] [] [(1000192, (⟨3, .int .i64, v3, true, false⟩ : Row))]
noncomputable def f8l4 : Clean := ⟨[3], [], [], [], [(⟨false, 3, 0⟩, 1000192)]⟩
noncomputable def f8s5 (v2 : LI) : St := stOf [(2, xo 1000128)] [] [(1000128, (⟨3, .int .i64, v2, true, false⟩ : Row))]
noncomputable def f8l5 : Clean := ⟨[2], [], [], [], [(⟨false, 2, 0⟩, 1000128)]⟩
noncomputable def f8B : Nat → Option Clean := lookL [(0, f8l4), (1000000, f8l5)]
noncomputable abbrev f8i {ρ : Type} (N : Nat) (c : Code) (p : Plan) (σ : St) (K : KT ρ) : Option ρ := iCode f8G tab f8B N c p σ K
noncomputable def f8c (n : Nat) : Code := codeN 99 (bodyOf Tryd.f8) n
theorem f8t1 N v0 (K : KT ρ) : f8i N (f8c 2) .n (f8s0 v0) (joinK (some f8l1) K) =
  laws_toIntS.Z1 N v0 (fun v0 => K .nrm (f8s1 v0)) := by kernel_rfl
theorem f8t3 N v0 (K : KT ρ) : f8i N (f8c 5) .n (f8s1 v0) (joinK (some f8l2) K) =
  laws_toIntS.Z3 N v0 (fun v3 v0 => K .nrm (f8s2 v3 v0)) := by kernel_rfl
theorem f8t6 N v3 v0 (K : KT ρ) : f8i N (f8c 19) .n (f8s2 v3 v0) (joinK (some f8l3) K) =
  laws_toIntS.Z6 N v3 v0 (fun v3 v0 v4 => K .nrm (f8s3 v3 v0 v4)) := by kernel_rfl
theorem f8t9 N v3 v0 v4 (K : KT ρ) : f8i N (f8c 75) .n (f8s3 v3 v0 v4) (joinK (some f8l3) K) =
  laws_toIntS.Z9 N v3 v0 v4 (fun v3 v0 v4 => K .nrm (f8s3 v3 v0 v4)) (fun v3 => K (.exit 0) (f8s4 v3)) := by kernel_rfl
noncomputable def f8p8 : Plan := .mk none (some f8l3) .n .n
noncomputable abbrev f8w8 {ρ : Type} (N M : Nat) (σ : St) (K : KT ρ) : Option ρ := loopC (fun σ K => f8i N (f8c 75) .n σ K) f8l3 M σ K
theorem f8t8L {ρ : Type} (N : Nat) (K : KT ρ) : ∀ (M : Nat) (v3 v0 : LI) (v4 : Int), f8w8 N M (f8s3 v3 v0 v4) K =
  laws_toIntS.Z8L N (fun v3 => K (.exit 0) (f8s4 v3)) M v3 v0 v4
  | 0, _, _, _ => rfl
  | M + 1, v3, v0, v4 => viaRoundS (fun k => laws_toIntS.Z9 N v3 v0 v4 k (fun v3 => K (.exit 0) (f8s4 v3))) (f8t9 N (K := seqK (fun σ => f8w8 N M σ K) K) ..) (fx3 fun v3 v0 v4 => f8t8L N K M v3 v0 v4) (by kernel_rfl)
theorem f8t8 N v3 v0 v4 (K : KT ρ) : f8i N (f8c 43) f8p8 (f8s3 v3 v0 v4) (joinK (some f8l4) K) =
  laws_toIntS.Z8 N v3 v0 v4 (fun v3 => K (.exit 0) (f8s4 v3)) :=
 viaLoopS (by kernel_rfl) (f8t8L N (joinK (some f8l4) K) N v3 v0 v4) (by kernel_rfl)
noncomputable def f8p7 : Plan := .mk (some f8l4) none f8p8 .n
theorem f8t7 N v3 v0 v4 (K : KT ρ) : f8i N (f8c 27) f8p7 (f8s3 v3 v0 v4) (joinK (some f8l4) K) =
  laws_toIntS.Z7 N v3 v0 v4 (fun v3 => K .nrm (f8s4 v3)) :=
 viaBlockS (by kernel_rfl) (f8t8 N (K := blockK 0 (joinK (some f8l4) K)) ..) (by kernel_rfl)
noncomputable def f8p5 : Plan := .mk (some f8l3) none .n f8p7
theorem f8t5 N v3 v0 (K : KT ρ) : f8i N (f8c 11) f8p5 (f8s2 v3 v0) (joinK (some f8l4) K) =
  laws_toIntS.Z5 N v3 v0 (fun v3 => K .nrm (f8s4 v3)) :=
 viaSeqS (fun k => laws_toIntS.Z6 N v3 v0 k) (by kernel_rfl) (f8t6 N (K := seqK (fun σ => f8i N (f8c 27) f8p7 σ (joinK (some f8l4) K)) (joinK (some f8l4) K)) ..) (fx3 fun v3 v0 v4 => f8t7 N v3 v0 v4 K) (by kernel_rfl)
theorem f8t10 N v3 (K : KT ρ) : f8i N (f8c 15) .n (f8s4 v3) (joinK (some f8lE) K) =
  laws_toIntS.Z10 N v3 (fun v2 => K .ret (f8s5 v2)) := by kernel_rfl
noncomputable def f8p4 : Plan := .mk (some f8l4) none f8p5 .n
theorem f8t4 N v3 v0 (K : KT ρ) : f8i N (f8c 7) f8p4 (f8s2 v3 v0) (joinK (some f8lE) K) =
  laws_toIntS.Z4 N v3 v0 (fun v2 => K .ret (f8s5 v2)) :=
 viaSeqS (fun k => laws_toIntS.Z5 N v3 v0 k) (by kernel_rfl) (f8t5 N (K := seqK (fun σ => f8i N (f8c 15) .n σ (joinK (some f8lE) K)) (joinK (some f8lE) K)) ..) (funext fun v3 => f8t10 N v3 K) (by kernel_rfl)
noncomputable def f8p2 : Plan := .mk (some f8l2) none .n f8p4
theorem f8t2 N v0 (K : KT ρ) : f8i N (f8c 3) f8p2 (f8s1 v0) (joinK (some f8lE) K) =
  laws_toIntS.Z2 N v0 (fun v2 => K .ret (f8s5 v2)) :=
 viaSeqS (fun k => laws_toIntS.Z3 N v0 k) (by kernel_rfl) (f8t3 N (K := seqK (fun σ => f8i N (f8c 7) f8p4 σ (joinK (some f8lE) K)) (joinK (some f8lE) K)) ..) (fx2 fun v3 v0 => f8t4 N v3 v0 K) (by kernel_rfl)
noncomputable def f8p0 : Plan := .mk (some f8l1) none .n f8p2
theorem f8t0 N v0 (K : KT ρ) : f8i N (f8c 1) f8p0 (f8s0 v0) (joinK (some f8lE) K) =
  laws_toIntS.Z0 N v0 (fun v2 => K .ret (f8s5 v2)) :=
 viaSeqS (fun k => laws_toIntS.Z1 N v0 k) (by kernel_rfl) (f8t1 N (K := seqK (fun σ => f8i N (f8c 3) f8p2 σ (joinK (some f8lE) K)) (joinK (some f8lE) K)) ..) (funext fun v0 => f8t2 N v0 K) (by kernel_rfl)
theorem f8m (N : Nat) (v0 : LI) : f8i N (f8c 1) f8p0 (f8s0 v0) (joinK (some f8lE) (finK tab f8sig Tryd.f8.results.toList)) = laws_toIntS.Z0 N v0 (fun v2 => some ((), (v2, ()))) :=
  (f8t0 N v0 (finK tab f8sig Tryd.f8.results.toList)).trans (by kernel_rfl)
theorem f8ok (h : laws_toIntS.Spec) : EntryOk Tryd.prog 8 e8 :=
  entry_of_code (sig := f8sig) (c := (f8c 1)) (pl := f8p0) (je := (some f8lE)) (B := f8B) Tryd.func8 (by kernel_rfl) (by kernel_rfl) (by kernel_rfl) tabOk f8GOk (by kernel_rfl) (by kernel_rfl) (by kernel_rfl) (by kernel_rfl) fun X hb hp => by
    obtain ⟨v0, _⟩ := X
    obtain ⟨N, h⟩ := h v0 hb.1 hp
    exact ⟨N, (f8m N v0).trans (h N (Nat.le_refl N))⟩
theorem e8ok : EntryOk Tryd.prog 8 e8 := f8ok laws_toIntS.ok
end Go.Fw
namespace Go.Fw
variable {ρ : Type}
open Go.Proofs
noncomputable def f15sig : Sig := ⟨[⟨.int .i64, false, false⟩], [⟨.str, false, false⟩]⟩
noncomputable def e15 : Entry := ⟨f15sig, (some fun X => spec_FormatInt.P X.1), fun X => ((), ((spec_FormatInt.g X.1), ()))⟩
noncomputable def f15G : Gm := emptyG
theorem f15GOk : GOk Tryd.prog f15G := GOk.nil
noncomputable def f15lE : Clean := ⟨[], [], [], [], []⟩
noncomputable def f15s0 (v0 : Int) : St := initSt f15sig.ps (v0, ())
noncomputable def f15s1 (v0 : Int) : St := stOf [(0, xi v0)] [] []
noncomputable def f15l1 : Clean := ⟨[0], [], [], [], []⟩
noncomputable def f15s2 (v3 : List Int) (v0 : Int) : St := stOf [(0, xi v0), (3, xo 1000192)] [] [(1000192, (⟨5, .int .u8, v3, true, false⟩ : Row))]
noncomputable def f15l2 : Clean := ⟨[0, 3], [], [], [], [(⟨false, 3, 0⟩, 1000192)]⟩
noncomputable def f15s3 (v3 : List Int) (v0 v4 : Int) : St := stOf [(0, xi v0), (3, xo 1000192), (4, xi v4)] [] [(1000192, (⟨5, .int .u8, v3, true, false⟩ : Row))]
noncomputable def f15l3 : Clean := ⟨[0, 3, 4], [], [], [], [(⟨false, 3, 0⟩, 1000192)]⟩
noncomputable def f15s4 (v3 v6 : List Int) (v0 : Int) : St := stOf [(0, xi v0), (3, xo 1000192), (6, xo 1000384)] [] [(1000192, (⟨5, .int .u8, v3, true, false⟩ : Row)), (1000384, (⟨5, .int .u8, v6, true, false⟩ : Row))]
noncomputable def f15l4 : Clean := ⟨[0, 3, 6], [], [], [], [(⟨false, 3, 0⟩, 1000192), (⟨false, 6, 0⟩, 1000384)]⟩
noncomputable def f15s5 (v3 v6 : List Int) : St := stOf [(3, xo 1000192), (6, xo 1000384)] [] [(1000192, (⟨5, .int .u8, v3, true, false⟩ : Row)), (1000384, (⟨5, .int .u8, v6, true, false⟩ : Row))]
noncomputable def f15l5 : Clean := ⟨[3, 6], [], [], [], [(⟨false, 3, 0⟩, 1000192), (⟨false, 6, 0⟩, 1000384)]⟩
noncomputable def f15s6 (v3 v6 : List Int) (v7 : Int) : St := stOf [(3, xo 1000192), (6, xo 1000384), (7, xi v7)] [] [(1000192, (⟨5, .int .u8, v3, true, false⟩ : Row)), (1000384, (⟨5, .int .u8, v6, true, false⟩ : Row))]
noncomputable def f15l6 : Clean := ⟨[3, 6, 7], [], [], [], [(⟨false, 3, 0⟩, 1000192), (⟨false, 6, 0⟩, 1000384)]⟩
noncomputable def f15s7 (v6 : List Int) : St := stOf [(6, xo 1000384)] [] [(1000384, (⟨5, .int .u8, v6, true, false⟩ : Row))]
noncomputable def f15l7 : Clean := ⟨[6], [], [], [], [(⟨false, 6, 0⟩, 1000384)]⟩
noncomputable def f15s8 (v2 : ByteArray) : St := stOf [(2, .c (.str v2))] [] []
noncomputable def f15l8 : Clean := ⟨[2], [], [], [], []⟩
noncomputable def f15B : Nat → Option Clean := lookL [(0, f15l2), (2, f15l7), (1000000, f15l8)]
noncomputable abbrev f15i {ρ : Type} (N : Nat) (c : Code) (p : Plan) (σ : St) (K : KT ρ) : Option ρ := iCode f15G tab f15B N c p σ K
noncomputable def f15c (n : Nat) : Code := codeN 99 (bodyOf Tryd.f15) n
theorem f15t1 N v0 (K : KT ρ) : f15i N (f15c 2) .n (f15s0 v0) (joinK (some f15l1) K) =
  spec_FormatInt.Z1 N v0 (fun v0 => K .nrm (f15s1 v0)) := by kernel_rfl
theorem f15t3 N v0 (K : KT ρ) : f15i N (f15c 5) .n (f15s1 v0) (joinK (some f15l2) K) =
  spec_FormatInt.Z3 N v0 (fun v3 v0 => K .nrm (f15s2 v3 v0)) := by kernel_rfl
theorem f15t5 N v3 v0 (K : KT ρ) : f15i N (f15c 11) .n (f15s2 v3 v0) (joinK (some f15l3) K) =
  spec_FormatInt.Z5 N v3 v0 (fun v3 v0 v4 => K .nrm (f15s3 v3 v0 v4)) := by kernel_rfl
theorem f15t9 N v3 v0 v4 (K : KT ρ) : f15i N (f15c 71) .n (f15s3 v3 v0 v4) (joinK (some f15l3) K) =
  spec_FormatInt.Z9 N v3 v0 v4 (fun v3 v0 v4 => K .nrm (f15s3 v3 v0 v4)) (fun v3 v0 => K (.exit 0) (f15s2 v3 v0)) := by kernel_rfl
noncomputable def f15p8 : Plan := .mk none (some f15l3) .n .n
noncomputable abbrev f15w8 {ρ : Type} (N M : Nat) (σ : St) (K : KT ρ) : Option ρ := loopC (fun σ K => f15i N (f15c 71) .n σ K) f15l3 M σ K
theorem f15t8L {ρ : Type} (N : Nat) (K : KT ρ) : ∀ (M : Nat) (v3 : List Int) (v0 v4 : Int), f15w8 N M (f15s3 v3 v0 v4) K =
  spec_FormatInt.Z8L N (fun v3 v0 => K (.exit 0) (f15s2 v3 v0)) M v3 v0 v4
  | 0, _, _, _ => rfl
  | M + 1, v3, v0, v4 => viaRoundS (fun k => spec_FormatInt.Z9 N v3 v0 v4 k (fun v3 v0 => K (.exit 0) (f15s2 v3 v0))) (f15t9 N (K := seqK (fun σ => f15w8 N M σ K) K) ..) (fx3 fun v3 v0 v4 => f15t8L N K M v3 v0 v4) (by kernel_rfl)
theorem f15t8 N v3 v0 v4 (K : KT ρ) : f15i N (f15c 39) f15p8 (f15s3 v3 v0 v4) (joinK (some f15l2) K) =
  spec_FormatInt.Z8 N v3 v0 v4 (fun v3 v0 => K (.exit 0) (f15s2 v3 v0)) :=
 viaLoopS (by kernel_rfl) (f15t8L N (joinK (some f15l2) K) N v3 v0 v4) (by kernel_rfl)
noncomputable def f15p7 : Plan := .mk (some f15l2) none f15p8 .n
theorem f15t7 N v3 v0 v4 (K : KT ρ) : f15i N (f15c 23) f15p7 (f15s3 v3 v0 v4) (joinK (some f15l2) K) =
  spec_FormatInt.Z7 N v3 v0 v4 (fun v3 v0 => K .nrm (f15s2 v3 v0)) :=
 viaBlockS (by kernel_rfl) (f15t8 N (K := blockK 0 (joinK (some f15l2) K)) ..) (by kernel_rfl)
theorem f15t11 N v3 v0 (K : KT ρ) : f15i N (f15c 47) .n (f15s2 v3 v0) (joinK (some f15l4) K) =
  spec_FormatInt.Z11 N v3 v0 (fun v3 v6 v0 => K .nrm (f15s4 v3 v6 v0)) := by kernel_rfl
theorem f15t13 N v3 v6 v0 (K : KT ρ) : f15i N (f15c 95) .n (f15s4 v3 v6 v0) (joinK (some f15l5) K) =
  spec_FormatInt.Z13 N v3 v6 v0 (fun v3 v6 => K .nrm (f15s5 v3 v6)) := by kernel_rfl
theorem f15t16 N v3 v6 (K : KT ρ) : f15i N (f15c 319) .n (f15s5 v3 v6) (joinK (some f15l6) K) =
  spec_FormatInt.Z16 N v3 v6 (fun v3 v6 v7 => K .nrm (f15s6 v3 v6 v7)) := by kernel_rfl
theorem f15t19 N v3 v6 v7 (K : KT ρ) : f15i N (f15c 1215) .n (f15s6 v3 v6 v7) (joinK (some f15l6) K) =
  spec_FormatInt.Z19 N v3 v6 v7 (fun v3 v6 v7 => K .nrm (f15s6 v3 v6 v7)) (fun v6 => K (.exit 2) (f15s7 v6)) := by kernel_rfl
noncomputable def f15p18 : Plan := .mk none (some f15l6) .n .n
noncomputable abbrev f15w18 {ρ : Type} (N M : Nat) (σ : St) (K : KT ρ) : Option ρ := loopC (fun σ K => f15i N (f15c 1215) .n σ K) f15l6 M σ K
theorem f15t18L {ρ : Type} (N : Nat) (K : KT ρ) : ∀ (M : Nat) (v3 v6 : List Int) (v7 : Int), f15w18 N M (f15s6 v3 v6 v7) K =
  spec_FormatInt.Z18L N (fun v6 => K (.exit 2) (f15s7 v6)) M v3 v6 v7
  | 0, _, _, _ => rfl
  | M + 1, v3, v6, v7 => viaRoundS (fun k => spec_FormatInt.Z19 N v3 v6 v7 k (fun v6 => K (.exit 2) (f15s7 v6))) (f15t19 N (K := seqK (fun σ => f15w18 N M σ K) K) ..) (fx3 fun v3 v6 v7 => f15t18L N K M v3 v6 v7) (by kernel_rfl)
theorem f15t18 N v3 v6 v7 (K : KT ρ) : f15i N (f15c 703) f15p18 (f15s6 v3 v6 v7) (joinK (some f15l7) K) =
  spec_FormatInt.Z18 N v3 v6 v7 (fun v6 => K (.exit 2) (f15s7 v6)) :=
 viaLoopS (by kernel_rfl) (f15t18L N (joinK (some f15l7) K) N v3 v6 v7) (by kernel_rfl)
noncomputable def f15p17 : Plan := .mk (some f15l7) none f15p18 .n
theorem f15t17 N v3 v6 v7 (K : KT ρ) : f15i N (f15c 447) f15p17 (f15s6 v3 v6 v7) (joinK (some f15l7) K) =
  spec_FormatInt.Z17 N v3 v6 v7 (fun v6 => K .nrm (f15s7 v6)) :=
 viaBlockS (by kernel_rfl) (f15t18 N (K := blockK 2 (joinK (some f15l7) K)) ..) (by kernel_rfl)
noncomputable def f15p15 : Plan := .mk (some f15l6) none .n f15p17
theorem f15t15 N v3 v6 (K : KT ρ) : f15i N (f15c 191) f15p15 (f15s5 v3 v6) (joinK (some f15l7) K) =
  spec_FormatInt.Z15 N v3 v6 (fun v6 => K .nrm (f15s7 v6)) :=
 viaSeqS (fun k => spec_FormatInt.Z16 N v3 v6 k) (by kernel_rfl) (f15t16 N (K := seqK (fun σ => f15i N (f15c 447) f15p17 σ (joinK (some f15l7) K)) (joinK (some f15l7) K)) ..) (fx3 fun v3 v6 v7 => f15t17 N v3 v6 v7 K) (by kernel_rfl)
theorem f15t20 N v6 (K : KT ρ) : f15i N (f15c 255) .n (f15s7 v6) (joinK (some f15lE) K) =
  spec_FormatInt.Z20 N v6 (fun v2 => K .ret (f15s8 v2)) := by kernel_rfl
noncomputable def f15p14 : Plan := .mk (some f15l7) none f15p15 .n
theorem f15t14 N v3 v6 (K : KT ρ) : f15i N (f15c 127) f15p14 (f15s5 v3 v6) (joinK (some f15lE) K) =
  spec_FormatInt.Z14 N v3 v6 (fun v2 => K .ret (f15s8 v2)) :=
 viaSeqS (fun k => spec_FormatInt.Z15 N v3 v6 k) (by kernel_rfl) (f15t15 N (K := seqK (fun σ => f15i N (f15c 255) .n σ (joinK (some f15lE) K)) (joinK (some f15lE) K)) ..) (funext fun v6 => f15t20 N v6 K) (by kernel_rfl)
noncomputable def f15p12 : Plan := .mk (some f15l5) none .n f15p14
theorem f15t12 N v3 v6 v0 (K : KT ρ) : f15i N (f15c 63) f15p12 (f15s4 v3 v6 v0) (joinK (some f15lE) K) =
  spec_FormatInt.Z12 N v3 v6 v0 (fun v2 => K .ret (f15s8 v2)) :=
 viaSeqS (fun k => spec_FormatInt.Z13 N v3 v6 v0 k) (by kernel_rfl) (f15t13 N (K := seqK (fun σ => f15i N (f15c 127) f15p14 σ (joinK (some f15lE) K)) (joinK (some f15lE) K)) ..) (fx2 fun v3 v6 => f15t14 N v3 v6 K) (by kernel_rfl)
noncomputable def f15p10 : Plan := .mk (some f15l4) none .n f15p12
theorem f15t10 N v3 v0 (K : KT ρ) : f15i N (f15c 31) f15p10 (f15s2 v3 v0) (joinK (some f15lE) K) =
  spec_FormatInt.Z10 N v3 v0 (fun v2 => K .ret (f15s8 v2)) :=
 viaSeqS (fun k => spec_FormatInt.Z11 N v3 v0 k) (by kernel_rfl) (f15t11 N (K := seqK (fun σ => f15i N (f15c 63) f15p12 σ (joinK (some f15lE) K)) (joinK (some f15lE) K)) ..) (fx3 fun v3 v6 v0 => f15t12 N v3 v6 v0 K) (by kernel_rfl)
noncomputable def f15p6 : Plan := .mk (some f15l2) none f15p7 f15p10
theorem f15t6 N v3 v0 v4 (K : KT ρ) : f15i N (f15c 15) f15p6 (f15s3 v3 v0 v4) (joinK (some f15lE) K) =
  spec_FormatInt.Z6 N v3 v0 v4 (fun v2 => K .ret (f15s8 v2)) :=
 viaSeqS (fun k => spec_FormatInt.Z7 N v3 v0 v4 k) (by kernel_rfl) (f15t7 N (K := seqK (fun σ => f15i N (f15c 31) f15p10 σ (joinK (some f15lE) K)) (joinK (some f15lE) K)) ..) (fx2 fun v3 v0 => f15t10 N v3 v0 K) (by kernel_rfl)
noncomputable def f15p4 : Plan := .mk (some f15l3) none .n f15p6
theorem f15t4 N v3 v0 (K : KT ρ) : f15i N (f15c 7) f15p4 (f15s2 v3 v0) (joinK (some f15lE) K) =
  spec_FormatInt.Z4 N v3 v0 (fun v2 => K .ret (f15s8 v2)) :=
 viaSeqS (fun k => spec_FormatInt.Z5 N v3 v0 k) (by kernel_rfl) (f15t5 N (K := seqK (fun σ => f15i N (f15c 15) f15p6 σ (joinK (some f15lE) K)) (joinK (some f15lE) K)) ..) (fx3 fun v3 v0 v4 => f15t6 N v3 v0 v4 K) (by kernel_rfl)
noncomputable def f15p2 : Plan := .mk (some f15l2) none .n f15p4
theorem f15t2 N v0 (K : KT ρ) : f15i N (f15c 3) f15p2 (f15s1 v0) (joinK (some f15lE) K) =
  spec_FormatInt.Z2 N v0 (fun v2 => K .ret (f15s8 v2)) :=
 viaSeqS (fun k => spec_FormatInt.Z3 N v0 k) (by kernel_rfl) (f15t3 N (K := seqK (fun σ => f15i N (f15c 7) f15p4 σ (joinK (some f15lE) K)) (joinK (some f15lE) K)) ..) (fx2 fun v3 v0 => f15t4 N v3 v0 K) (by kernel_rfl)
noncomputable def f15p0 : Plan := .mk (some f15l1) none .n f15p2
theorem f15t0 N v0 (K : KT ρ) : f15i N (f15c 1) f15p0 (f15s0 v0) (joinK (some f15lE) K) =
  spec_FormatInt.Z0 N v0 (fun v2 => K .ret (f15s8 v2)) :=
 viaSeqS (fun k => spec_FormatInt.Z1 N v0 k) (by kernel_rfl) (f15t1 N (K := seqK (fun σ => f15i N (f15c 3) f15p2 σ (joinK (some f15lE) K)) (joinK (some f15lE) K)) ..) (funext fun v0 => f15t2 N v0 K) (by kernel_rfl)
theorem f15m (N : Nat) (v0 : Int) : f15i N (f15c 1) f15p0 (f15s0 v0) (joinK (some f15lE) (finK tab f15sig Tryd.f15.results.toList)) = spec_FormatInt.Z0 N v0 (fun v2 => some ((), (v2, ()))) :=
  (f15t0 N v0 (finK tab f15sig Tryd.f15.results.toList)).trans (by kernel_rfl)
theorem f15ok (h : spec_FormatInt.Spec) : EntryOk Tryd.prog 15 e15 :=
  entry_of_code (sig := f15sig) (c := (f15c 1)) (pl := f15p0) (je := (some f15lE)) (B := f15B) Tryd.func15 (by kernel_rfl) (by kernel_rfl) (by kernel_rfl) tabOk f15GOk (by kernel_rfl) (by kernel_rfl) (by kernel_rfl) (by kernel_rfl) fun X hb hp => by
    obtain ⟨v0, _⟩ := X
    obtain ⟨N, h⟩ := h v0 hp
    exact ⟨N, (f15m N v0).trans (h N (Nat.le_refl N))⟩
theorem e15ok : EntryOk Tryd.prog 15 e15 := f15ok spec_FormatInt.ok
end Go.Fw
namespace Go.Fw
variable {ρ : Type}
open Go.Proofs
noncomputable def f7sig : Sig := ⟨[⟨.sl 3 (.int .i64), false, false⟩], [⟨.str, false, false⟩]⟩
noncomputable def e7 : Entry := ⟨f7sig, (some fun X => spec_FormatInts.P X.1), fun X => ((), ((spec_FormatInts.g X.1), ()))⟩
noncomputable def f7G : Gm := addG emptyG 15 e15
theorem f7GOk : GOk Tryd.prog f7G := (GOk.nil).add e15ok (by kernel_rfl)
noncomputable def f7lE : Clean := ⟨[], [], [], [], []⟩
noncomputable def f7s0 (v0 : LI) : St := initSt f7sig.ps (v0, ())
noncomputable def f7s1 (v0 : LI) : St := stOf [(0, .c (.sn 3 tI v0 none))] [] []
noncomputable def f7l1 : Clean := ⟨[0], [], [], [], []⟩
noncomputable def f7s2 (v0 : LI) (v3 : ByteArray) : St := stOf [(0, .c (.sn 3 tI v0 none)), (3, .c (.str v3))] [] []
noncomputable def f7l2 : Clean := ⟨[0, 3], [], [], [], []⟩
noncomputable def f7s3 (v0 : LI) (v3 : ByteArray) (v4 : Int) : St := stOf [(0, .c (.sn 3 tI v0 none)), (3, .c (.str v3)), (4, xi v4)] [] []
noncomputable def f7l3 : Clean := ⟨[0, 3, 4], [], [], [], []⟩
noncomputable def f7s4 (v3 : ByteArray) : St := stOf [(3, .c (.str v3))] [] []
noncomputable def f7l4 : Clean := ⟨[3], [], [], [], []⟩
noncomputable def f7s5 (v2 : ByteArray) : St := stOf [(2, .c (.str v2))] [] []
noncomputable def f7l5 : Clean := ⟨[2], [], [], [], []⟩
noncomputable def f7B : Nat → Option Clean := lookL [(0, f7l4), (1000000, f7l5)]
noncomputable abbrev f7i {ρ : Type} (N : Nat) (c : Code) (p : Plan) (σ : St) (K : KT ρ) : Option ρ := iCode f7G tab f7B N c p σ K
noncomputable def f7c (n : Nat) : Code := codeN 99 (bodyOf Tryd.f7) n
theorem f7t1 N v0 (K : KT ρ) : f7i N (f7c 2) .n (f7s0 v0) (joinK (some f7l1) K) =
  spec_FormatInts.Z1 N v0 (fun v0 => K .nrm (f7s1 v0)) := by kernel_rfl
theorem f7t3 N v0 (K : KT ρ) : f7i N (f7c 5) .n (f7s1 v0) (joinK (some f7l2) K) =
  spec_FormatInts.Z3 N v0 (fun v0 v3 => K .nrm (f7s2 v0 v3)) := by kernel_rfl
theorem f7t6 N v0 v3 (K : KT ρ) : f7i N (f7c 19) .n (f7s2 v0 v3) (joinK (some f7l3) K) =
  spec_FormatInts.Z6 N v0 v3 (fun v0 v3 v4 => K .nrm (f7s3 v0 v3 v4)) := by kernel_rfl
theorem f7t9 N v0 v3 v4 (K : KT ρ) : f7i N (f7c 75) .n (f7s3 v0 v3 v4) (joinK (some f7l3) K) =
  spec_FormatInts.Z9 N v0 v3 v4 (fun v0 v3 v4 => K .nrm (f7s3 v0 v3 v4)) (fun v3 => K (.exit 0) (f7s4 v3)) := by kernel_rfl
noncomputable def f7p8 : Plan := .mk none (some f7l3) .n .n
noncomputable abbrev f7w8 {ρ : Type} (N M : Nat) (σ : St) (K : KT ρ) : Option ρ := loopC (fun σ K => f7i N (f7c 75) .n σ K) f7l3 M σ K
theorem f7t8L {ρ : Type} (N : Nat) (K : KT ρ) : ∀ (M : Nat) (v0 : LI) (v3 : ByteArray) (v4 : Int), f7w8 N M (f7s3 v0 v3 v4) K =
  spec_FormatInts.Z8L N (fun v3 => K (.exit 0) (f7s4 v3)) M v0 v3 v4
  | 0, _, _, _ => rfl
  | M + 1, v0, v3, v4 => viaRoundS (fun k => spec_FormatInts.Z9 N v0 v3 v4 k (fun v3 => K (.exit 0) (f7s4 v3))) (f7t9 N (K := seqK (fun σ => f7w8 N M σ K) K) ..) (fx3 fun v0 v3 v4 => f7t8L N K M v0 v3 v4) (by kernel_rfl)
theorem f7t8 N v0 v3 v4 (K : KT ρ) : f7i N (f7c 43) f7p8 (f7s3 v0 v3 v4) (joinK (some f7l4) K) =
  spec_FormatInts.Z8 N v0 v3 v4 (fun v3 => K (.exit 0) (f7s4 v3)) :=
 viaLoopS (by kernel_rfl) (f7t8L N (joinK (some f7l4) K) N v0 v3 v4) (by kernel_rfl)
noncomputable def f7p7 : Plan := .mk (some f7l4) none f7p8 .n
theorem f7t7 N v0 v3 v4 (K : KT ρ) : f7i N (f7c 27) f7p7 (f7s3 v0 v3 v4) (joinK (some f7l4) K) =
  spec_FormatInts.Z7 N v0 v3 v4 (fun v3 => K .nrm (f7s4 v3)) :=
 viaBlockS (by kernel_rfl) (f7t8 N (K := blockK 0 (joinK (some f7l4) K)) ..) (by kernel_rfl)
noncomputable def f7p5 : Plan := .mk (some f7l3) none .n f7p7
theorem f7t5 N v0 v3 (K : KT ρ) : f7i N (f7c 11) f7p5 (f7s2 v0 v3) (joinK (some f7l4) K) =
  spec_FormatInts.Z5 N v0 v3 (fun v3 => K .nrm (f7s4 v3)) :=
 viaSeqS (fun k => spec_FormatInts.Z6 N v0 v3 k) (by kernel_rfl) (f7t6 N (K := seqK (fun σ => f7i N (f7c 27) f7p7 σ (joinK (some f7l4) K)) (joinK (some f7l4) K)) ..) (fx3 fun v0 v3 v4 => f7t7 N v0 v3 v4 K) (by kernel_rfl)
theorem f7t10 N v3 (K : KT ρ) : f7i N (f7c 15) .n (f7s4 v3) (joinK (some f7lE) K) =
  spec_FormatInts.Z10 N v3 (fun v2 => K .ret (f7s5 v2)) := by kernel_rfl
noncomputable def f7p4 : Plan := .mk (some f7l4) none f7p5 .n
theorem f7t4 N v0 v3 (K : KT ρ) : f7i N (f7c 7) f7p4 (f7s2 v0 v3) (joinK (some f7lE) K) =
  spec_FormatInts.Z4 N v0 v3 (fun v2 => K .ret (f7s5 v2)) :=
 viaSeqS (fun k => spec_FormatInts.Z5 N v0 v3 k) (by kernel_rfl) (f7t5 N (K := seqK (fun σ => f7i N (f7c 15) .n σ (joinK (some f7lE) K)) (joinK (some f7lE) K)) ..) (funext fun v3 => f7t10 N v3 K) (by kernel_rfl)
noncomputable def f7p2 : Plan := .mk (some f7l2) none .n f7p4
theorem f7t2 N v0 (K : KT ρ) : f7i N (f7c 3) f7p2 (f7s1 v0) (joinK (some f7lE) K) =
  spec_FormatInts.Z2 N v0 (fun v2 => K .ret (f7s5 v2)) :=
 viaSeqS (fun k => spec_FormatInts.Z3 N v0 k) (by kernel_rfl) (f7t3 N (K := seqK (fun σ => f7i N (f7c 7) f7p4 σ (joinK (some f7lE) K)) (joinK (some f7lE) K)) ..) (fx2 fun v0 v3 => f7t4 N v0 v3 K) (by kernel_rfl)
noncomputable def f7p0 : Plan := .mk (some f7l1) none .n f7p2
theorem f7t0 N v0 (K : KT ρ) : f7i N (f7c 1) f7p0 (f7s0 v0) (joinK (some f7lE) K) =
  spec_FormatInts.Z0 N v0 (fun v2 => K .ret (f7s5 v2)) :=
 viaSeqS (fun k => spec_FormatInts.Z1 N v0 k) (by kernel_rfl) (f7t1 N (K := seqK (fun σ => f7i N (f7c 3) f7p2 σ (joinK (some f7lE) K)) (joinK (some f7lE) K)) ..) (funext fun v0 => f7t2 N v0 K) (by kernel_rfl)
theorem f7m (N : Nat) (v0 : LI) : f7i N (f7c 1) f7p0 (f7s0 v0) (joinK (some f7lE) (finK tab f7sig Tryd.f7.results.toList)) = spec_FormatInts.Z0 N v0 (fun v2 => some ((), (v2, ()))) :=
  (f7t0 N v0 (finK tab f7sig Tryd.f7.results.toList)).trans (by kernel_rfl)
theorem f7ok (h : spec_FormatInts.Spec) : EntryOk Tryd.prog 7 e7 :=
  entry_of_code (sig := f7sig) (c := (f7c 1)) (pl := f7p0) (je := (some f7lE)) (B := f7B) Tryd.func7 (by kernel_rfl) (by kernel_rfl) (by kernel_rfl) tabOk f7GOk (by kernel_rfl) (by kernel_rfl) (by kernel_rfl) (by kernel_rfl) fun X hb hp => by
    obtain ⟨v0, _⟩ := X
    obtain ⟨N, h⟩ := h v0 hb.1 hp
    exact ⟨N, (f7m N v0).trans (h N (Nat.le_refl N))⟩
theorem e7ok : EntryOk Tryd.prog 7 e7 := f7ok spec_FormatInts.ok
end Go.Fw
namespace Go.Fw
variable {ρ : Type}
open Go.Proofs
noncomputable def f22sig : Sig := ⟨[⟨.int .i64, false, false⟩], [⟨.str, false, false⟩]⟩
noncomputable def e22 : Entry := ⟨f22sig, (some fun X => strconv_Itoa.P X.1), fun X => ((), ((strconv_Itoa.g X.1), ()))⟩
noncomputable def f22layren : Go.Shelf.Ren := ⟨fun | 171 => 22 | 243 => 29 | 246 => 36 | 283 => 44 | 284 => 45 | 285 => 46 | 286 => 47 | 129 => 51 | 317 => 50 | 318 => 52 | 319 => 53 | 320 => 54 | 337 => 55 | 338 => 56 | n => n, fun | 3 => 3 | 9 => 9 | 2 => 2 | 4 => 4 | 171 => 62 | 0 => 0 | 53 => 63 | 37 => 39 | 5 => 5 | 173 => 66 | 212 => 76 | 51 => 72 | 20 => 20 | 213 => 77 | 46 => 61 | 232 => 81 | 233 => 82 | n => n, fun | 17 => 3 | 18 => 4 | 19 => 5 | n => n⟩
theorem f22lay : LaysM.n171 Tryd.prog f22layren := { mixed := (by kernel_rfl), f129 := Tryd.func51.trans (congrArg some (by kernel_rfl)), f171 := Tryd.func22.trans (congrArg some (by kernel_rfl)), f243 := Tryd.func29.trans (congrArg some (by kernel_rfl)), f246 := Tryd.func36.trans (congrArg some (by kernel_rfl)), f283 := Tryd.func44.trans (congrArg some (by kernel_rfl)), f284 := Tryd.func45.trans (congrArg some (by kernel_rfl)), f285 := Tryd.func46.trans (congrArg some (by kernel_rfl)), f286 := Tryd.func47.trans (congrArg some (by kernel_rfl)), f317 := Tryd.func50.trans (congrArg some (by kernel_rfl)), f318 := Tryd.func52.trans (congrArg some (by kernel_rfl)), f319 := Tryd.func53.trans (congrArg some (by kernel_rfl)), f320 := Tryd.func54.trans (congrArg some (by kernel_rfl)), f337 := Tryd.func55.trans (congrArg some (by kernel_rfl)), f338 := Tryd.func56.trans (congrArg some (by kernel_rfl)), t0 := Tryd.underlying0, a0 := Tryd.isAgg0, z0 := Tryd.sizeOf0, v0 := Tryd.zeroValue0, t2 := Tryd.underlying2, a2 := Tryd.isAgg2, z2 := Tryd.sizeOf2, v2 := Tryd.zeroValue2, t3 := Tryd.underlying3, a3 := Tryd.isAgg3, z3 := Tryd.sizeOf3, v3 := Tryd.zeroValue3, t4 := Tryd.underlying4, a4 := Tryd.isAgg4, z4 := Tryd.sizeOf4, v4 := Tryd.zeroValue4, t5 := Tryd.underlying5, a5 := Tryd.isAgg5, z5 := Tryd.sizeOf5, v5 := Tryd.zeroValue5, t9 := Tryd.underlying9, a9 := Tryd.isAgg9, z9 := Tryd.sizeOf9, v9 := Tryd.zeroValue9, t20 := Tryd.underlying20, a20 := Tryd.isAgg20, z20 := Tryd.sizeOf20, v20 := Tryd.zeroValue20, t37 := Tryd.underlying39, a37 := Tryd.isAgg39, z37 := Tryd.sizeOf39, v37 := Tryd.zeroValue39, t46 := Tryd.underlying61, a46 := Tryd.isAgg61, z46 := Tryd.sizeOf61, v46 := Tryd.zeroValue61, t51 := Tryd.underlying72, a51 := Tryd.isAgg72, z51 := Tryd.sizeOf72, v51 := Tryd.zeroValue72, t53 := Tryd.underlying63, a53 := Tryd.isAgg63, z53 := Tryd.sizeOf63, v53 := Tryd.zeroValue63, t171 := Tryd.underlying62, a171 := Tryd.isAgg62, z171 := Tryd.sizeOf62, v171 := Tryd.zeroValue62, t173 := Tryd.underlying66, a173 := Tryd.isAgg66, z173 := Tryd.sizeOf66, v173 := Tryd.zeroValue66, t212 := Tryd.underlying76, a212 := Tryd.isAgg76, z212 := Tryd.sizeOf76, v212 := Tryd.zeroValue76, t213 := Tryd.underlying77, a213 := Tryd.isAgg77, z213 := Tryd.sizeOf77, t232 := Tryd.underlying81, a232 := Tryd.isAgg81, z232 := Tryd.sizeOf81, v232 := Tryd.zeroValue81, t233 := Tryd.underlying82, a233 := Tryd.isAgg82, z233 := Tryd.sizeOf82, v233 := Tryd.zeroValue82, g17 := (by kernel_rfl), g18 := (by kernel_rfl), g19 := (by kernel_rfl), i0 := (by kernel_rfl), i2 := (by kernel_rfl), i3 := (by kernel_rfl), i4 := (by kernel_rfl), i5 := (by kernel_rfl), i9 := (by kernel_rfl), i20 := (by kernel_rfl), i37 := (by kernel_rfl), i46 := (by kernel_rfl), i51 := (by kernel_rfl), i53 := (by kernel_rfl), i171 := (by kernel_rfl), i173 := (by kernel_rfl), i212 := (by kernel_rfl), i232 := (by kernel_rfl), i233 := (by kernel_rfl), m17 := (by kernel_rfl), m18 := (by kernel_rfl), m19 := (by kernel_rfl) }
theorem f22ok (_ : True) : EntryOk Tryd.prog 22 e22 := itoa_ok tab0 f22lay
theorem e22ok : EntryOk Tryd.prog 22 e22 := f22ok strconv_Itoa.ok
end Go.Fw
namespace Go.Fw
variable {ρ : Type}
open Go.Proofs
noncomputable def f16sig : Sig := ⟨[⟨.int .i64, false, false⟩], [⟨.str, false, false⟩]⟩
noncomputable def e16 : Entry := ⟨f16sig, (some fun X => impl_FormatInt.P X.1), fun X => ((), ((impl_FormatInt.g X.1), ()))⟩
noncomputable def f16G : Gm := addG emptyG 22 e22
theorem f16GOk : GOk Tryd.prog f16G := (GOk.nil).add e22ok (by kernel_rfl)
noncomputable def f16lE : Clean := ⟨[], [], [], [], []⟩
noncomputable def f16s0 (v0 : Int) : St := initSt f16sig.ps (v0, ())
noncomputable def f16s1 (v2 : ByteArray) : St := stOf [(2, .c (.str v2))] [] []
noncomputable def f16l1 : Clean := ⟨[2], [], [], [], []⟩
noncomputable def f16B : Nat → Option Clean := lookL [(1000000, f16l1)]
noncomputable abbrev f16i {ρ : Type} (N : Nat) (c : Code) (p : Plan) (σ : St) (K : KT ρ) : Option ρ := iCode f16G tab f16B N c p σ K
noncomputable def f16c (n : Nat) : Code := codeN 99 (bodyOf Tryd.f16) n
theorem f16t0 N v0 (K : KT ρ) : f16i N (f16c 1) .n (f16s0 v0) (joinK (some f16lE) K) =
  impl_FormatInt.Z0 N v0 (fun v2 => K .ret (f16s1 v2)) := by kernel_rfl
theorem f16m (N : Nat) (v0 : Int) : f16i N (f16c 1) .n (f16s0 v0) (joinK (some f16lE) (finK tab f16sig Tryd.f16.results.toList)) = impl_FormatInt.Z0 N v0 (fun v2 => some ((), (v2, ()))) :=
  (f16t0 N v0 (finK tab f16sig Tryd.f16.results.toList)).trans (by kernel_rfl)
theorem f16ok (h : impl_FormatInt.Spec) : EntryOk Tryd.prog 16 e16 :=
  entry_of_code (sig := f16sig) (c := (f16c 1)) (pl := .n) (je := (some f16lE)) (B := f16B) Tryd.func16 (by kernel_rfl) (by kernel_rfl) (by kernel_rfl) tabOk f16GOk (by kernel_rfl) (by kernel_rfl) (by kernel_rfl) (by kernel_rfl) fun X hb hp => by
    obtain ⟨v0, _⟩ := X
    obtain ⟨N, h⟩ := h v0 hp
    exact ⟨N, (f16m N v0).trans (h N (Nat.le_refl N))⟩
theorem e16ok : EntryOk Tryd.prog 16 e16 := f16ok impl_FormatInt.ok
end Go.Fw
namespace Go.Fw
variable {ρ : Type}
open Go.Proofs
noncomputable def f17sig : Sig := ⟨[⟨.sl 9 (.str), false, false⟩, ⟨.str, false, false⟩], [⟨.str, false, false⟩]⟩
noncomputable def e17 : Entry := ⟨f17sig, (some fun X => strings_Join.P X.1 X.2.1), fun X => ((), ((strings_Join.g X.1 X.2.1), ()))⟩
noncomputable def f17layren : Go.Shelf.Ren := ⟨fun | 156 => 17 | 165 => 23 | 166 => 24 | 169 => 25 | 240 => 30 | 241 => 31 | 276 => 37 | 277 => 38 | n => n, fun | 31 => 30 | 9 => 9 | 3 => 3 | 4 => 4 | 0 => 0 | 20 => 20 | 72 => 42 | 76 => 46 | 70 => 40 | 37 => 39 | 75 => 45 | 127 => 51 | 164 => 57 | 5 => 5 | 80 => 48 | n => n, fun n => n⟩
theorem f17lay : Lays.n156 Tryd.prog f17layren := { mixed := (by kernel_rfl), f156 := Tryd.func17.trans (congrArg some (by kernel_rfl)), f165 := Tryd.func23.trans (congrArg some (by kernel_rfl)), f166 := Tryd.func24.trans (congrArg some (by kernel_rfl)), f169 := Tryd.func25.trans (congrArg some (by kernel_rfl)), f240 := Tryd.func30.trans (congrArg some (by kernel_rfl)), f241 := Tryd.func31.trans (congrArg some (by kernel_rfl)), f276 := Tryd.func37.trans (congrArg some (by kernel_rfl)), f277 := Tryd.func38.trans (congrArg some (by kernel_rfl)), t0 := Tryd.underlying0, a0 := Tryd.isAgg0, z0 := Tryd.sizeOf0, v0 := Tryd.zeroValue0, t3 := Tryd.underlying3, a3 := Tryd.isAgg3, z3 := Tryd.sizeOf3, v3 := Tryd.zeroValue3, t4 := Tryd.underlying4, a4 := Tryd.isAgg4, z4 := Tryd.sizeOf4, v4 := Tryd.zeroValue4, t9 := Tryd.underlying9, a9 := Tryd.isAgg9, z9 := Tryd.sizeOf9, v9 := Tryd.zeroValue9, t20 := Tryd.underlying20, a20 := Tryd.isAgg20, z20 := Tryd.sizeOf20, v20 := Tryd.zeroValue20, t31 := Tryd.underlying30, a31 := Tryd.isAgg30, z31 := Tryd.sizeOf30, v31 := Tryd.zeroValue30, t37 := Tryd.underlying39, a37 := Tryd.isAgg39, z37 := Tryd.sizeOf39, v37 := Tryd.zeroValue39, t70 := Tryd.underlying40, a70 := Tryd.isAgg40, z70 := Tryd.sizeOf40, v70 := Tryd.zeroValue40, t72 := Tryd.underlying42, a72 := Tryd.isAgg42, z72 := Tryd.sizeOf42, v72 := Tryd.zeroValue42, t75 := Tryd.underlying45, a75 := Tryd.isAgg45, z75 := Tryd.sizeOf45, v75 := Tryd.zeroValue45, t76 := Tryd.underlying46, a76 := Tryd.isAgg46, z76 := Tryd.sizeOf46, v76 := Tryd.zeroValue46, t127 := Tryd.underlying51, a127 := Tryd.isAgg51, z127 := Tryd.sizeOf51, v127 := Tryd.zeroValue51, t164 := Tryd.underlying57, a164 := Tryd.isAgg57, z164 := Tryd.sizeOf57, v164 := Tryd.zeroValue57 }
theorem f17layX : Builder.Extra Tryd.prog f17layren := { sizeBuilder := (by kernel_rfl), liesBuilder := (by kernel_rfl), t5 := Tryd.underlying5, a5 := Tryd.isAgg5, z5 := Tryd.sizeOf5, v5 := Tryd.zeroValue5, infoByte := (by kernel_rfl), cellsByte := (by kernel_rfl), sizeByte := (by kernel_rfl), neB5 := (by decide) }
theorem f17ok (_ : True) : EntryOk Tryd.prog 17 e17 := join_ok f17lay f17layX
theorem e17ok : EntryOk Tryd.prog 17 e17 := f17ok strings_Join.ok
end Go.Fw
namespace Go.Fw
variable {ρ : Type}
open Go.Proofs
noncomputable def f9sig : Sig := ⟨[⟨.sl 3 (.int .i64), false, false⟩], [⟨.str, false, false⟩]⟩
noncomputable def e9 : Entry := ⟨f9sig, (some fun X => impl_FormatInts.P X.1), fun X => ((), ((impl_FormatInts.g X.1), ()))⟩
noncomputable def f9G : Gm := addG (addG emptyG 16 e16) 17 e17
theorem f9GOk : GOk Tryd.prog f9G := ((GOk.nil).add e16ok (by kernel_rfl)).add e17ok (by kernel_rfl)
noncomputable def f9lE : Clean := ⟨[], [], [], [], []⟩
noncomputable def f9s0 (v0 : LI) : St := initSt f9sig.ps (v0, ())
noncomputable def f9s1 (v0 : LI) : St := stOf [(0, .c (.sn 3 tI v0 none))] [] []
noncomputable def f9l1 : Clean := ⟨[0], [], [], [], []⟩
noncomputable def f9s2 (v0 : LI) : St := stOf [(0, .c (.sn 3 tI v0 none)), (3, .c (.nil))] [] []
noncomputable def f9l2 : Clean := ⟨[0, 3], [], [], [], []⟩
noncomputable def f9s3 (v6 : LI) (v7 v8 : Int) : St := stOf [(3, .c (.nil)), (6, .c (.sn 3 tI v6 none)), (7, xi v7), (8, xi v8)] [] []
noncomputable def f9l3 : Clean := ⟨[3, 6, 7, 8], [], [], [], []⟩
noncomputable def f9s4 (v3 : List ByteArray) (v6 : LI) (v7 v8 : Int) : St := stOf [(3, xo 1000192), (6, .c (.sn 3 tI v6 none)), (7, xi v7), (8, xi v8)] [] [(1000192, (⟨9, .str, v3, true, false⟩ : Row))]
noncomputable def f9l4 : Clean := ⟨[3, 6, 7, 8], [], [⟨⟨false, 3, 0⟩, 30000000, 9, .str, true⟩], [], [(⟨false, 3, 0⟩, 1000192)]⟩
noncomputable def f9s5 (v3 : List ByteArray) : St := stOf [(3, xo 1000192)] [] [(1000192, (⟨9, .str, v3, true, false⟩ : Row))]
noncomputable def f9l5 : Clean := ⟨[3], [], [], [], [(⟨false, 3, 0⟩, 1000192)]⟩
noncomputable def f9s6 (v2 : ByteArray) : St := stOf [(2, .c (.str v2))] [] []
noncomputable def f9l6 : Clean := ⟨[2], [], [], [], []⟩
noncomputable def f9B : Nat → Option Clean := lookL [(0, f9l5), (1000000, f9l6)]
noncomputable abbrev f9i {ρ : Type} (N : Nat) (c : Code) (p : Plan) (σ : St) (K : KT ρ) : Option ρ := iCode f9G tab f9B N c p σ K
noncomputable def f9c (n : Nat) : Code := codeN 99 (bodyOf Tryd.f9) n
theorem f9t1 N v0 (K : KT ρ) : f9i N (f9c 2) .n (f9s0 v0) (joinK (some f9l1) K) =
  impl_FormatInts.Z1 N v0 (fun v0 => K .nrm (f9s1 v0)) := by kernel_rfl
theorem f9t3 N v0 (K : KT ρ) : f9i N (f9c 5) .n (f9s1 v0) (joinK (some f9l2) K) =
  impl_FormatInts.Z3 N v0 (fun v0 => K .nrm (f9s2 v0)) := by kernel_rfl
theorem f9t6 N v0 (K : KT ρ) : f9i N (f9c 19) .n (f9s2 v0) (joinK (some f9l3) K) =
  impl_FormatInts.Z6 N v0 (fun v6 v7 v8 => K .nrm (f9s3 v6 v7 v8)) := by kernel_rfl
theorem f9t9 N v3 v6 v7 v8 (K : KT ρ) : f9i N (f9c 75) .n (f9s4 v3 v6 v7 v8) (joinK (some f9l4) K) =
  impl_FormatInts.Z9 N v3 v6 v7 v8 (fun v3 v6 v7 v8 => K .nrm (f9s4 v3 v6 v7 v8)) (fun v3 => K (.exit 0) (f9s5 v3)) := by kernel_rfl
noncomputable def f9p8 : Plan := .mk none (some f9l4) .n .n
noncomputable abbrev f9w8 {ρ : Type} (N M : Nat) (σ : St) (K : KT ρ) : Option ρ := loopC (fun σ K => f9i N (f9c 75) .n σ K) f9l4 M σ K
theorem f9t8L {ρ : Type} (N : Nat) (K : KT ρ) : ∀ (M : Nat) (v3 : List ByteArray) (v6 : LI) (v7 v8 : Int), f9w8 N M (f9s4 v3 v6 v7 v8) K =
  impl_FormatInts.Z8L N (fun v3 => K (.exit 0) (f9s5 v3)) M v3 v6 v7 v8
  | 0, _, _, _, _ => rfl
  | M + 1, v3, v6, v7, v8 => viaRoundS (fun k => impl_FormatInts.Z9 N v3 v6 v7 v8 k (fun v3 => K (.exit 0) (f9s5 v3))) (f9t9 N (K := seqK (fun σ => f9w8 N M σ K) K) ..) (fx4 fun v3 v6 v7 v8 => f9t8L N K M v3 v6 v7 v8) (by kernel_rfl)
theorem f9t8 N v6 v7 v8 (K : KT ρ) : f9i N (f9c 43) f9p8 (f9s3 v6 v7 v8) (joinK (some f9l5) K) =
  impl_FormatInts.Z8 N v6 v7 v8 (fun v3 => K (.exit 0) (f9s5 v3)) :=
 viaLoopS (by kernel_rfl) (f9t8L N (joinK (some f9l5) K) N ([] : List ByteArray) v6 v7 v8) (by kernel_rfl)
noncomputable def f9p7 : Plan := .mk (some f9l5) none f9p8 .n
theorem f9t7 N v6 v7 v8 (K : KT ρ) : f9i N (f9c 27) f9p7 (f9s3 v6 v7 v8) (joinK (some f9l5) K) =
  impl_FormatInts.Z7 N v6 v7 v8 (fun v3 => K .nrm (f9s5 v3)) :=
 viaBlockS (by kernel_rfl) (f9t8 N (K := blockK 0 (joinK (some f9l5) K)) ..) (by kernel_rfl)
noncomputable def f9p5 : Plan := .mk (some f9l3) none .n f9p7
theorem f9t5 N v0 (K : KT ρ) : f9i N (f9c 11) f9p5 (f9s2 v0) (joinK (some f9l5) K) =
  impl_FormatInts.Z5 N v0 (fun v3 => K .nrm (f9s5 v3)) :=
 viaSeqS (fun k => impl_FormatInts.Z6 N v0 k) (by kernel_rfl) (f9t6 N (K := seqK (fun σ => f9i N (f9c 27) f9p7 σ (joinK (some f9l5) K)) (joinK (some f9l5) K)) ..) (fx3 fun v6 v7 v8 => f9t7 N v6 v7 v8 K) (by kernel_rfl)
theorem f9t10 N v3 (K : KT ρ) : f9i N (f9c 15) .n (f9s5 v3) (joinK (some f9lE) K) =
  impl_FormatInts.Z10 N v3 (fun v2 => K .ret (f9s6 v2)) := by kernel_rfl
noncomputable def f9p4 : Plan := .mk (some f9l5) none f9p5 .n
theorem f9t4 N v0 (K : KT ρ) : f9i N (f9c 7) f9p4 (f9s2 v0) (joinK (some f9lE) K) =
  impl_FormatInts.Z4 N v0 (fun v2 => K .ret (f9s6 v2)) :=
 viaSeqS (fun k => impl_FormatInts.Z5 N v0 k) (by kernel_rfl) (f9t5 N (K := seqK (fun σ => f9i N (f9c 15) .n σ (joinK (some f9lE) K)) (joinK (some f9lE) K)) ..) (funext fun v3 => f9t10 N v3 K) (by kernel_rfl)
noncomputable def f9p2 : Plan := .mk (some f9l2) none .n f9p4
theorem f9t2 N v0 (K : KT ρ) : f9i N (f9c 3) f9p2 (f9s1 v0) (joinK (some f9lE) K) =
  impl_FormatInts.Z2 N v0 (fun v2 => K .ret (f9s6 v2)) :=
 viaSeqS (fun k => impl_FormatInts.Z3 N v0 k) (by kernel_rfl) (f9t3 N (K := seqK (fun σ => f9i N (f9c 7) f9p4 σ (joinK (some f9lE) K)) (joinK (some f9lE) K)) ..) (funext fun v0 => f9t4 N v0 K) (by kernel_rfl)
noncomputable def f9p0 : Plan := .mk (some f9l1) none .n f9p2
theorem f9t0 N v0 (K : KT ρ) : f9i N (f9c 1) f9p0 (f9s0 v0) (joinK (some f9lE) K) =
  impl_FormatInts.Z0 N v0 (fun v2 => K .ret (f9s6 v2)) :=
 viaSeqS (fun k => impl_FormatInts.Z1 N v0 k) (by kernel_rfl) (f9t1 N (K := seqK (fun σ => f9i N (f9c 3) f9p2 σ (joinK (some f9lE) K)) (joinK (some f9lE) K)) ..) (funext fun v0 => f9t2 N v0 K) (by kernel_rfl)
theorem f9m (N : Nat) (v0 : LI) : f9i N (f9c 1) f9p0 (f9s0 v0) (joinK (some f9lE) (finK tab f9sig Tryd.f9.results.toList)) = impl_FormatInts.Z0 N v0 (fun v2 => some ((), (v2, ()))) :=
  (f9t0 N v0 (finK tab f9sig Tryd.f9.results.toList)).trans (by kernel_rfl)
theorem f9ok (h : impl_FormatInts.Spec) : EntryOk Tryd.prog 9 e9 :=
  entry_of_code (sig := f9sig) (c := (f9c 1)) (pl := f9p0) (je := (some f9lE)) (B := f9B) Tryd.func9 (by kernel_rfl) (by kernel_rfl) (by kernel_rfl) tabOk f9GOk (by kernel_rfl) (by kernel_rfl) (by kernel_rfl) (by kernel_rfl) fun X hb hp => by
    obtain ⟨v0, _⟩ := X
    obtain ⟨N, h⟩ := h v0 hb.1 hp
    exact ⟨N, (f9m N v0).trans (h N (Nat.le_refl N))⟩
theorem e9ok : EntryOk Tryd.prog 9 e9 := f9ok impl_FormatInts.ok
end Go.Fw
namespace Go.Fw
variable {ρ : Type}
open Go.Proofs
noncomputable def f10sig : Sig := ⟨[⟨.sl 3 (.int .i64), false, false⟩, ⟨.sl 3 (.int .i64), false, false⟩], [⟨.bool, false, false⟩]⟩
noncomputable def e10 : Entry := ⟨f10sig, none, fun X => ((), ((laws_eqIntS.g X.1 X.2.1), ()))⟩
noncomputable def f10G : Gm := emptyG
theorem f10GOk : GOk Tryd.prog f10G := GOk.nil
noncomputable def f10lE : Clean := ⟨[], [], [], [], []⟩
noncomputable def f10s0 (v0 v1 : LI) : St := initSt f10sig.ps (v0, (v1, ()))
noncomputable def f10s1 (v0 v1 : LI) : St := stOf [(0, .c (.sn 3 tI v0 none)), (1, .c (.sn 3 tI v1 none))] [] []
noncomputable def f10l1 : Clean := ⟨[0, 1], [], [], [], []⟩
noncomputable def f10s2 (v0 v1 : LI) (v5 : Int) : St := stOf [(0, .c (.sn 3 tI v0 none)), (1, .c (.sn 3 tI v1 none)), (5, xi v5)] [] []
noncomputable def f10l2 : Clean := ⟨[0, 1, 5], [], [], [], []⟩
noncomputable def f10s3  : St := stOf [] [] []
noncomputable def f10l3 : Clean := ⟨[], [], [], [], []⟩
noncomputable def f10s4 (v4 : Bool) : St := stOf [(4, xB v4)] [] []
noncomputable def f10l4 : Clean := ⟨[4], [], [], [], []⟩
noncomputable def f10B : Nat → Option Clean := lookL [(0, f10l3), (1000000, f10l4)]
noncomputable abbrev f10i {ρ : Type} (N : Nat) (c : Code) (p : Plan) (σ : St) (K : KT ρ) : Option ρ := iCode f10G tab f10B N c p σ K
noncomputable def f10c (n : Nat) : Code := codeN 99 (bodyOf Tryd.f10) n
theorem f10t1 N v0 v1 (K : KT ρ) : f10i N (f10c 2) .n (f10s0 v0 v1) (joinK (some f10l1) K) =
  laws_eqIntS.Z1 N v0 v1 (fun v0 v1 => K .nrm (f10s1 v0 v1)) := by kernel_rfl
theorem f10t3 N v0 v1 (K : KT ρ) : f10i N (f10c 5) .n (f10s1 v0 v1) (joinK (some f10l1) K) =
  laws_eqIntS.Z3 N v0 v1 (fun v0 v1 => K .nrm (f10s1 v0 v1)) (fun v4 => K .ret (f10s4 v4)) := by kernel_rfl
theorem f10t6 N v0 v1 (K : KT ρ) : f10i N (f10c 19) .n (f10s1 v0 v1) (joinK (some f10l2) K) =
  laws_eqIntS.Z6 N v0 v1 (fun v0 v1 v5 => K .nrm (f10s2 v0 v1 v5)) := by kernel_rfl
theorem f10t9 N v0 v1 v5 (K : KT ρ) : f10i N (f10c 75) .n (f10s2 v0 v1 v5) (joinK (some f10l2) K) =
  laws_eqIntS.Z9 N v0 v1 v5 (fun v0 v1 v5 => K .nrm (f10s2 v0 v1 v5)) (K (.exit 0) f10s3) (fun v4 => K .ret (f10s4 v4)) := by kernel_rfl
noncomputable def f10p8 : Plan := .mk none (some f10l2) .n .n
noncomputable abbrev f10w8 {ρ : Type} (N M : Nat) (σ : St) (K : KT ρ) : Option ρ := loopC (fun σ K => f10i N (f10c 75) .n σ K) f10l2 M σ K
theorem f10t8L {ρ : Type} (N : Nat) (K : KT ρ) : ∀ (M : Nat) (v0 v1 : LI) (v5 : Int), f10w8 N M (f10s2 v0 v1 v5) K =
  laws_eqIntS.Z8L N (K (.exit 0) f10s3) (fun v4 => K .ret (f10s4 v4)) M v0 v1 v5
  | 0, _, _, _ => rfl
  | M + 1, v0, v1, v5 => viaRoundS (fun k => laws_eqIntS.Z9 N v0 v1 v5 k (K (.exit 0) f10s3) (fun v4 => K .ret (f10s4 v4))) (f10t9 N (K := seqK (fun σ => f10w8 N M σ K) K) ..) (fx3 fun v0 v1 v5 => f10t8L N K M v0 v1 v5) (by kernel_rfl)
theorem f10t8 N v0 v1 v5 (K : KT ρ) : f10i N (f10c 43) f10p8 (f10s2 v0 v1 v5) (joinK (some f10l3) K) =
  laws_eqIntS.Z8 N v0 v1 v5 (K (.exit 0) f10s3) (fun v4 => K .ret (f10s4 v4)) :=
 viaLoopS (by kernel_rfl) (f10t8L N (joinK (some f10l3) K) N v0 v1 v5) (by kernel_rfl)
noncomputable def f10p7 : Plan := .mk (some f10l3) none f10p8 .n
theorem f10t7 N v0 v1 v5 (K : KT ρ) : f10i N (f10c 27) f10p7 (f10s2 v0 v1 v5) (joinK (some f10l3) K) =
  laws_eqIntS.Z7 N v0 v1 v5 (K .nrm f10s3) (fun v4 => K .ret (f10s4 v4)) :=
 viaBlockS (by kernel_rfl) (f10t8 N (K := blockK 0 (joinK (some f10l3) K)) ..) (by kernel_rfl)
noncomputable def f10p5 : Plan := .mk (some f10l2) none .n f10p7
theorem f10t5 N v0 v1 (K : KT ρ) : f10i N (f10c 11) f10p5 (f10s1 v0 v1) (joinK (some f10l3) K) =
  laws_eqIntS.Z5 N v0 v1 (K .nrm f10s3) (fun v4 => K .ret (f10s4 v4)) :=
 viaSeqS (fun k => laws_eqIntS.Z6 N v0 v1 k) (by kernel_rfl) (f10t6 N (K := seqK (fun σ => f10i N (f10c 27) f10p7 σ (joinK (some f10l3) K)) (joinK (some f10l3) K)) ..) (fx3 fun v0 v1 v5 => f10t7 N v0 v1 v5 K) (by kernel_rfl)
theorem f10t10 N  (K : KT ρ) : f10i N (f10c 15) .n f10s3 (joinK (some f10lE) K) =
  laws_eqIntS.Z10 N (fun v4 => K .ret (f10s4 v4)) := by kernel_rfl
noncomputable def f10p4 : Plan := .mk (some f10l3) none f10p5 .n
theorem f10t4 N v0 v1 (K : KT ρ) : f10i N (f10c 7) f10p4 (f10s1 v0 v1) (joinK (some f10lE) K) =
  laws_eqIntS.Z4 N v0 v1 (fun v4 => K .ret (f10s4 v4)) :=
 viaSeqS (fun k => laws_eqIntS.Z5 N v0 v1 k (fun v4 => K .ret (f10s4 v4))) (by kernel_rfl) (f10t5 N (K := seqK (fun σ => f10i N (f10c 15) .n σ (joinK (some f10lE) K)) (joinK (some f10lE) K)) ..) (f10t10 N K) (by kernel_rfl)
noncomputable def f10p2 : Plan := .mk (some f10l1) none .n f10p4
theorem f10t2 N v0 v1 (K : KT ρ) : f10i N (f10c 3) f10p2 (f10s1 v0 v1) (joinK (some f10lE) K) =
  laws_eqIntS.Z2 N v0 v1 (fun v4 => K .ret (f10s4 v4)) :=
 viaSeqS (fun k => laws_eqIntS.Z3 N v0 v1 k (fun v4 => K .ret (f10s4 v4))) (by kernel_rfl) (f10t3 N (K := seqK (fun σ => f10i N (f10c 7) f10p4 σ (joinK (some f10lE) K)) (joinK (some f10lE) K)) ..) (fx2 fun v0 v1 => f10t4 N v0 v1 K) (by kernel_rfl)
noncomputable def f10p0 : Plan := .mk (some f10l1) none .n f10p2
theorem f10t0 N v0 v1 (K : KT ρ) : f10i N (f10c 1) f10p0 (f10s0 v0 v1) (joinK (some f10lE) K) =
  laws_eqIntS.Z0 N v0 v1 (fun v4 => K .ret (f10s4 v4)) :=
 viaSeqS (fun k => laws_eqIntS.Z1 N v0 v1 k) (by kernel_rfl) (f10t1 N (K := seqK (fun σ => f10i N (f10c 3) f10p2 σ (joinK (some f10lE) K)) (joinK (some f10lE) K)) ..) (fx2 fun v0 v1 => f10t2 N v0 v1 K) (by kernel_rfl)
theorem f10m (N : Nat) (v0 v1 : LI) : f10i N (f10c 1) f10p0 (f10s0 v0 v1) (joinK (some f10lE) (finK tab f10sig Tryd.f10.results.toList)) = laws_eqIntS.Z0 N v0 v1 (fun v4 => some ((), (v4, ()))) :=
  (f10t0 N v0 v1 (finK tab f10sig Tryd.f10.results.toList)).trans (by kernel_rfl)
theorem f10ok (h : laws_eqIntS.Spec) : EntryOk Tryd.prog 10 e10 :=
  entry_of_code (sig := f10sig) (c := (f10c 1)) (pl := f10p0) (je := (some f10lE)) (B := f10B) Tryd.func10 (by kernel_rfl) (by kernel_rfl) (by kernel_rfl) tabOk f10GOk (by kernel_rfl) (by kernel_rfl) (by kernel_rfl) (by kernel_rfl) fun X hb hp => by
    obtain ⟨v0, v1, _⟩ := X
    obtain ⟨N, h⟩ := h v0 v1 hb.1 hb.2.1
    exact ⟨N, (f10m N v0 v1).trans (h N (Nat.le_refl N))⟩
theorem e10ok : EntryOk Tryd.prog 10 e10 := f10ok laws_eqIntS.ok
end Go.Fw
namespace Go.Fw
variable {ρ : Type}
open Go.Proofs
noncomputable def f4sig : Sig := ⟨[⟨.sl 3 (.int .i64), false, false⟩], [⟨.bool, false, false⟩]⟩
noncomputable def e4 : Entry := ⟨f4sig, (some fun X => laws_FnExactFormatInts.P X.1), fun X => ((), ((laws_FnExactFormatInts.g X.1), ()))⟩
noncomputable def f4G : Gm := addG (addG (addG (addG emptyG 7 e7) 8 e8) 9 e9) 10 e10
theorem f4GOk : GOk Tryd.prog f4G := ((((GOk.nil).add e7ok (by kernel_rfl)).add e8ok (by kernel_rfl)).add e9ok (by kernel_rfl)).add e10ok (by kernel_rfl)
noncomputable def f4lE : Clean := ⟨[], [], [], [], []⟩
noncomputable def f4s0 (v0 : LI) : St := initSt f4sig.ps (v0, ())
noncomputable def f4s1 (v2 : Bool) : St := stOf [(2, xB v2)] [] []
noncomputable def f4l1 : Clean := ⟨[2], [], [], [], []⟩
noncomputable def f4B : Nat → Option Clean := lookL [(1000000, f4l1)]
noncomputable abbrev f4i {ρ : Type} (N : Nat) (c : Code) (p : Plan) (σ : St) (K : KT ρ) : Option ρ := iCode f4G tab f4B N c p σ K
noncomputable def f4c (n : Nat) : Code := codeN 99 (bodyOf Tryd.f4) n
theorem f4t0 N v0 (K : KT ρ) : f4i N (f4c 1) .n (f4s0 v0) (joinK (some f4lE) K) =
  laws_FnExactFormatInts.Z0 N v0 (fun v2 => K .ret (f4s1 v2)) := by kernel_rfl
theorem f4m (N : Nat) (v0 : LI) : f4i N (f4c 1) .n (f4s0 v0) (joinK (some f4lE) (finK tab f4sig Tryd.f4.results.toList)) = laws_FnExactFormatInts.Z0 N v0 (fun v2 => some ((), (v2, ()))) :=
  (f4t0 N v0 (finK tab f4sig Tryd.f4.results.toList)).trans (by kernel_rfl)
theorem f4ok (h : laws_FnExactFormatInts.Spec) : EntryOk Tryd.prog 4 e4 :=
  entry_of_code (sig := f4sig) (c := (f4c 1)) (pl := .n) (je := (some f4lE)) (B := f4B) Tryd.func4 (by kernel_rfl) (by kernel_rfl) (by kernel_rfl) tabOk f4GOk (by kernel_rfl) (by kernel_rfl) (by kernel_rfl) (by kernel_rfl) fun X hb hp => by
    obtain ⟨v0, _⟩ := X
    obtain ⟨N, h⟩ := h v0 hb.1 hp
    exact ⟨N, (f4m N v0).trans (h N (Nat.le_refl N))⟩
theorem e4ok : EntryOk Tryd.prog 4 e4 := f4ok laws_FnExactFormatInts.ok
end Go.Fw
