/- The ties: the program's text comes to the plain functions. Nothing is assumed. -/
import Derived.Test.YtojjkghallginaaDoorFza
import Derived.Test.YtojjkghallginaaDoorProg
import Derived.Test.YtojjkghallginaaDoorPuFnExactFormatInta
import Derived.Test.YtojjkghallginaaDoorChecked
set_option linter.unusedVariables false
set_option linter.unusedSimpArgs false
set_option maxRecDepth 100000
namespace Go.Fw
open Go.Proofs
def tab : Tab := lookTab [
  (2, ⟨false, .int .i64, [.int .i64 0], [], none, 8⟩),
  (3, ⟨false, .int .i64, [.int .i64 0], [], none, 8⟩),
  (4, ⟨false, .bool, [.bool false], [], none, 1⟩),
  (5, ⟨false, .int .u8, [.int .u8 0], [], none, 1⟩),
  (6, ⟨false, .int .u8, [.int .u8 0], [], none, 1⟩),
  (7, ⟨true, .pair (.int .i64) (.pair (.int .i64) (.pair (.bool) (.int .u8))), [.int .i64 0, .int .i64 0, .bool false, .int .u8 0], [(0, 1, false), (1, 1, false), (2, 1, false), (3, 1, false)], none, 24⟩),
  (8, ⟨true, .pair (.int .i64) (.pair (.int .i64) (.pair (.bool) (.int .u8))), [.int .i64 0, .int .i64 0, .bool false, .int .u8 0], [(0, 1, false), (1, 1, false), (2, 1, false), (3, 1, false)], none, 24⟩),
  (9, ⟨false, .str, [.str ByteArray.empty], [], none, 16⟩),
  (10, ⟨false, .str, [.str ByteArray.empty], [], none, 16⟩),
  (11, ⟨false, .str, [.str ByteArray.empty], [], none, 16⟩),
  (12, ⟨false, .int .u64, [.int .u64 0], [], none, 8⟩),
  (13, ⟨true, .pair (.str) (.int .u64), [.str ByteArray.empty, .int .u64 0], [(0, 1, false), (1, 1, false)], none, 24⟩),
  (14, ⟨true, .pair (.str) (.int .u64), [.str ByteArray.empty, .int .u64 0], [(0, 1, false), (1, 1, false)], none, 24⟩),
  (21, ⟨false, .int .i32, [.int .i32 0], [], none, 4⟩),
  (24, ⟨false, .sl 5 (.int .u8), [.nil], [], some 5, 24⟩),
  (27, ⟨false, .int .u64, [.int .u64 0], [], none, 8⟩),
  (35, ⟨false, .int .u32, [.int .u32 0], [], none, 4⟩),
  (37, ⟨false, .int .u64, [.int .u64 0], [], none, 8⟩)]
theorem tabOk : TOk Tryd.prog tab := TOk.of (by kernel_rfl)
noncomputable def tabl : List (String × IntKind × List Int) := [("internal/strconv.uint64pow10", .u64, Lib.pow10Tab)]
noncomputable instance : Inv Tryd.prog := Inv.tabs _ tabl
theorem tab0 (w : World) (h : Inv.I Tryd.prog w) : Lib.TabIs Tryd.prog w "internal/strconv.uint64pow10" .u64 Lib.pow10Tab := Inv.tab_mem ("internal/strconv.uint64pow10", .u64, Lib.pow10Tab) (List.mem_of_getElem? (i := 0) rfl) w h
end Go.Fw
namespace Go.Fw
variable {ρ : Type}
open Go.Proofs
noncomputable def f4sig : Sig := ⟨[⟨.int .i64, false, false⟩], [⟨.str, false, false⟩]⟩
noncomputable def e4 : Entry := ⟨f4sig, (some fun X => spec_FormatInt.P X.1), fun X => ((), ((spec_FormatInt.g X.1), ()))⟩
noncomputable def f4G : Gm := emptyG
theorem f4GOk : GOk Tryd.prog f4G := GOk.nil
noncomputable def f4lE : Clean := ⟨[], [], [], [], []⟩
noncomputable def f4s0 (v0 : Int) : St := initSt f4sig.ps (v0, ())
noncomputable def f4s1 (v0 : Int) : St := stOf [(0, xi v0)] [] []
noncomputable def f4l1 : Clean := ⟨[0], [], [], [], []⟩
noncomputable def f4s2 (v3 : List Int) (v0 : Int) : St := stOf [(0, xi v0), (3, xo 1000192)] [] [(1000192, (⟨5, .int .u8, v3, true, false⟩ : Row))]
noncomputable def f4l2 : Clean := ⟨[0, 3], [], [], [], [(⟨false, 3, 0⟩, 1000192)]⟩
noncomputable def f4s3 (v3 : List Int) (v0 v4 : Int) : St := stOf [(0, xi v0), (3, xo 1000192), (4, xi v4)] [] [(1000192, (⟨5, .int .u8, v3, true, false⟩ : Row))]
noncomputable def f4l3 : Clean := ⟨[0, 3, 4], [], [], [], [(⟨false, 3, 0⟩, 1000192)]⟩
noncomputable def f4s4 (v3 v6 : List Int) (v0 : Int) : St := stOf [(0, xi v0), (3, xo 1000192), (6, xo 1000384)] [] [(1000192, (⟨5, .int .u8, v3, true, false⟩ : Row)), (1000384, (⟨5, .int .u8, v6, true, false⟩ : Row))]
noncomputable def f4l4 : Clean := ⟨[0, 3, 6], [], [], [], [(⟨false, 3, 0⟩, 1000192), (⟨false, 6, 0⟩, 1000384)]⟩
noncomputable def f4s5 (v3 v6 : List Int) : St := stOf [(3, xo 1000192), (6, xo 1000384)] [] [(1000192, (⟨5, .int .u8, v3, true, false⟩ : Row)), (1000384, (⟨5, .int .u8, v6, true, false⟩ : Row))]
noncomputable def f4l5 : Clean := ⟨[3, 6], [], [], [], [(⟨false, 3, 0⟩, 1000192), (⟨false, 6, 0⟩, 1000384)]⟩
noncomputable def f4s6 (v3 v6 : List Int) (v7 : Int) : St := stOf [(3, xo 1000192), (6, xo 1000384), (7, xi v7)] [] [(1000192, (⟨5, .int .u8, v3, true, false⟩ : Row)), (1000384, (⟨5, .int .u8, v6, true, false⟩ : Row))]
noncomputable def f4l6 : Clean := ⟨[3, 6, 7], [], [], [], [(⟨false, 3, 0⟩, 1000192), (⟨false, 6, 0⟩, 1000384)]⟩
noncomputable def f4s7 (v6 : List Int) : St := stOf [(6, xo 1000384)] [] [(1000384, (⟨5, .int .u8, v6, true, false⟩ : Row))]
noncomputable def f4l7 : Clean := ⟨[6], [], [], [], [(⟨false, 6, 0⟩, 1000384)]⟩
noncomputable def f4s8 (v2 : ByteArray) : St := stOf [(2, .c (.str v2))] [] []
noncomputable def f4l8 : Clean := ⟨[2], [], [], [], []⟩
noncomputable def f4B : Nat → Option Clean := lookL [(0, f4l2), (2, f4l7), (1000000, f4l8)]
noncomputable abbrev f4i {ρ : Type} (N : Nat) (c : Code) (p : Plan) (σ : St) (K : KT ρ) : Option ρ := iCode f4G tab f4B N c p σ K
noncomputable def f4c (n : Nat) : Code := codeN 99 (bodyOf Tryd.f4) n
theorem f4t1 N v0 (K : KT ρ) : f4i N (f4c 2) .n (f4s0 v0) (joinK (some f4l1) K) =
  spec_FormatInt.Z1 N v0 (fun v0 => K .nrm (f4s1 v0)) := by kernel_rfl
theorem f4t3 N v0 (K : KT ρ) : f4i N (f4c 5) .n (f4s1 v0) (joinK (some f4l2) K) =
  spec_FormatInt.Z3 N v0 (fun v3 v0 => K .nrm (f4s2 v3 v0)) := by kernel_rfl
theorem f4t5 N v3 v0 (K : KT ρ) : f4i N (f4c 11) .n (f4s2 v3 v0) (joinK (some f4l3) K) =
  spec_FormatInt.Z5 N v3 v0 (fun v3 v0 v4 => K .nrm (f4s3 v3 v0 v4)) := by kernel_rfl
theorem f4t9 N v3 v0 v4 (K : KT ρ) : f4i N (f4c 71) .n (f4s3 v3 v0 v4) (joinK (some f4l3) K) =
  spec_FormatInt.Z9 N v3 v0 v4 (fun v3 v0 v4 => K .nrm (f4s3 v3 v0 v4)) (fun v3 v0 => K (.exit 0) (f4s2 v3 v0)) := by kernel_rfl
noncomputable def f4p8 : Plan := .mk none (some f4l3) .n .n
noncomputable abbrev f4w8 {ρ : Type} (N M : Nat) (σ : St) (K : KT ρ) : Option ρ := loopC (fun σ K => f4i N (f4c 71) .n σ K) f4l3 M σ K
theorem f4t8L {ρ : Type} (N : Nat) (K : KT ρ) : ∀ (M : Nat) (v3 : List Int) (v0 v4 : Int), f4w8 N M (f4s3 v3 v0 v4) K =
  spec_FormatInt.Z8L N (fun v3 v0 => K (.exit 0) (f4s2 v3 v0)) M v3 v0 v4
  | 0, _, _, _ => rfl
  | M + 1, v3, v0, v4 => viaRoundS (fun k => spec_FormatInt.Z9 N v3 v0 v4 k (fun v3 v0 => K (.exit 0) (f4s2 v3 v0))) (f4t9 N (K := seqK (fun σ => f4w8 N M σ K) K) ..) (fx3 fun v3 v0 v4 => f4t8L N K M v3 v0 v4) (by kernel_rfl)
theorem f4t8 N v3 v0 v4 (K : KT ρ) : f4i N (f4c 39) f4p8 (f4s3 v3 v0 v4) (joinK (some f4l2) K) =
  spec_FormatInt.Z8 N v3 v0 v4 (fun v3 v0 => K (.exit 0) (f4s2 v3 v0)) :=
 viaLoopS (by kernel_rfl) (f4t8L N (joinK (some f4l2) K) N v3 v0 v4) (by kernel_rfl)
noncomputable def f4p7 : Plan := .mk (some f4l2) none f4p8 .n
theorem f4t7 N v3 v0 v4 (K : KT ρ) : f4i N (f4c 23) f4p7 (f4s3 v3 v0 v4) (joinK (some f4l2) K) =
  spec_FormatInt.Z7 N v3 v0 v4 (fun v3 v0 => K .nrm (f4s2 v3 v0)) :=
 viaBlockS (by kernel_rfl) (f4t8 N (K := blockK 0 (joinK (some f4l2) K)) ..) (by kernel_rfl)
theorem f4t11 N v3 v0 (K : KT ρ) : f4i N (f4c 47) .n (f4s2 v3 v0) (joinK (some f4l4) K) =
  spec_FormatInt.Z11 N v3 v0 (fun v3 v6 v0 => K .nrm (f4s4 v3 v6 v0)) := by kernel_rfl
theorem f4t13 N v3 v6 v0 (K : KT ρ) : f4i N (f4c 95) .n (f4s4 v3 v6 v0) (joinK (some f4l5) K) =
  spec_FormatInt.Z13 N v3 v6 v0 (fun v3 v6 => K .nrm (f4s5 v3 v6)) := by kernel_rfl
theorem f4t16 N v3 v6 (K : KT ρ) : f4i N (f4c 319) .n (f4s5 v3 v6) (joinK (some f4l6) K) =
  spec_FormatInt.Z16 N v3 v6 (fun v3 v6 v7 => K .nrm (f4s6 v3 v6 v7)) := by kernel_rfl
theorem f4t19 N v3 v6 v7 (K : KT ρ) : f4i N (f4c 1215) .n (f4s6 v3 v6 v7) (joinK (some f4l6) K) =
  spec_FormatInt.Z19 N v3 v6 v7 (fun v3 v6 v7 => K .nrm (f4s6 v3 v6 v7)) (fun v6 => K (.exit 2) (f4s7 v6)) := by kernel_rfl
noncomputable def f4p18 : Plan := .mk none (some f4l6) .n .n
noncomputable abbrev f4w18 {ρ : Type} (N M : Nat) (σ : St) (K : KT ρ) : Option ρ := loopC (fun σ K => f4i N (f4c 1215) .n σ K) f4l6 M σ K
theorem f4t18L {ρ : Type} (N : Nat) (K : KT ρ) : ∀ (M : Nat) (v3 v6 : List Int) (v7 : Int), f4w18 N M (f4s6 v3 v6 v7) K =
  spec_FormatInt.Z18L N (fun v6 => K (.exit 2) (f4s7 v6)) M v3 v6 v7
  | 0, _, _, _ => rfl
  | M + 1, v3, v6, v7 => viaRoundS (fun k => spec_FormatInt.Z19 N v3 v6 v7 k (fun v6 => K (.exit 2) (f4s7 v6))) (f4t19 N (K := seqK (fun σ => f4w18 N M σ K) K) ..) (fx3 fun v3 v6 v7 => f4t18L N K M v3 v6 v7) (by kernel_rfl)
theorem f4t18 N v3 v6 v7 (K : KT ρ) : f4i N (f4c 703) f4p18 (f4s6 v3 v6 v7) (joinK (some f4l7) K) =
  spec_FormatInt.Z18 N v3 v6 v7 (fun v6 => K (.exit 2) (f4s7 v6)) :=
 viaLoopS (by kernel_rfl) (f4t18L N (joinK (some f4l7) K) N v3 v6 v7) (by kernel_rfl)
noncomputable def f4p17 : Plan := .mk (some f4l7) none f4p18 .n
theorem f4t17 N v3 v6 v7 (K : KT ρ) : f4i N (f4c 447) f4p17 (f4s6 v3 v6 v7) (joinK (some f4l7) K) =
  spec_FormatInt.Z17 N v3 v6 v7 (fun v6 => K .nrm (f4s7 v6)) :=
 viaBlockS (by kernel_rfl) (f4t18 N (K := blockK 2 (joinK (some f4l7) K)) ..) (by kernel_rfl)
noncomputable def f4p15 : Plan := .mk (some f4l6) none .n f4p17
theorem f4t15 N v3 v6 (K : KT ρ) : f4i N (f4c 191) f4p15 (f4s5 v3 v6) (joinK (some f4l7) K) =
  spec_FormatInt.Z15 N v3 v6 (fun v6 => K .nrm (f4s7 v6)) :=
 viaSeqS (fun k => spec_FormatInt.Z16 N v3 v6 k) (by kernel_rfl) (f4t16 N (K := seqK (fun σ => f4i N (f4c 447) f4p17 σ (joinK (some f4l7) K)) (joinK (some f4l7) K)) ..) (fx3 fun v3 v6 v7 => f4t17 N v3 v6 v7 K) (by kernel_rfl)
theorem f4t20 N v6 (K : KT ρ) : f4i N (f4c 255) .n (f4s7 v6) (joinK (some f4lE) K) =
  spec_FormatInt.Z20 N v6 (fun v2 => K .ret (f4s8 v2)) := by kernel_rfl
noncomputable def f4p14 : Plan := .mk (some f4l7) none f4p15 .n
theorem f4t14 N v3 v6 (K : KT ρ) : f4i N (f4c 127) f4p14 (f4s5 v3 v6) (joinK (some f4lE) K) =
  spec_FormatInt.Z14 N v3 v6 (fun v2 => K .ret (f4s8 v2)) :=
 viaSeqS (fun k => spec_FormatInt.Z15 N v3 v6 k) (by kernel_rfl) (f4t15 N (K := seqK (fun σ => f4i N (f4c 255) .n σ (joinK (some f4lE) K)) (joinK (some f4lE) K)) ..) (funext fun v6 => f4t20 N v6 K) (by kernel_rfl)
noncomputable def f4p12 : Plan := .mk (some f4l5) none .n f4p14
theorem f4t12 N v3 v6 v0 (K : KT ρ) : f4i N (f4c 63) f4p12 (f4s4 v3 v6 v0) (joinK (some f4lE) K) =
  spec_FormatInt.Z12 N v3 v6 v0 (fun v2 => K .ret (f4s8 v2)) :=
 viaSeqS (fun k => spec_FormatInt.Z13 N v3 v6 v0 k) (by kernel_rfl) (f4t13 N (K := seqK (fun σ => f4i N (f4c 127) f4p14 σ (joinK (some f4lE) K)) (joinK (some f4lE) K)) ..) (fx2 fun v3 v6 => f4t14 N v3 v6 K) (by kernel_rfl)
noncomputable def f4p10 : Plan := .mk (some f4l4) none .n f4p12
theorem f4t10 N v3 v0 (K : KT ρ) : f4i N (f4c 31) f4p10 (f4s2 v3 v0) (joinK (some f4lE) K) =
  spec_FormatInt.Z10 N v3 v0 (fun v2 => K .ret (f4s8 v2)) :=
 viaSeqS (fun k => spec_FormatInt.Z11 N v3 v0 k) (by kernel_rfl) (f4t11 N (K := seqK (fun σ => f4i N (f4c 63) f4p12 σ (joinK (some f4lE) K)) (joinK (some f4lE) K)) ..) (fx3 fun v3 v6 v0 => f4t12 N v3 v6 v0 K) (by kernel_rfl)
noncomputable def f4p6 : Plan := .mk (some f4l2) none f4p7 f4p10
theorem f4t6 N v3 v0 v4 (K : KT ρ) : f4i N (f4c 15) f4p6 (f4s3 v3 v0 v4) (joinK (some f4lE) K) =
  spec_FormatInt.Z6 N v3 v0 v4 (fun v2 => K .ret (f4s8 v2)) :=
 viaSeqS (fun k => spec_FormatInt.Z7 N v3 v0 v4 k) (by kernel_rfl) (f4t7 N (K := seqK (fun σ => f4i N (f4c 31) f4p10 σ (joinK (some f4lE) K)) (joinK (some f4lE) K)) ..) (fx2 fun v3 v0 => f4t10 N v3 v0 K) (by kernel_rfl)
noncomputable def f4p4 : Plan := .mk (some f4l3) none .n f4p6
theorem f4t4 N v3 v0 (K : KT ρ) : f4i N (f4c 7) f4p4 (f4s2 v3 v0) (joinK (some f4lE) K) =
  spec_FormatInt.Z4 N v3 v0 (fun v2 => K .ret (f4s8 v2)) :=
 viaSeqS (fun k => spec_FormatInt.Z5 N v3 v0 k) (by kernel_rfl) (f4t5 N (K := seqK (fun σ => f4i N (f4c 15) f4p6 σ (joinK (some f4lE) K)) (joinK (some f4lE) K)) ..) (fx3 fun v3 v0 v4 => f4t6 N v3 v0 v4 K) (by kernel_rfl)
noncomputable def f4p2 : Plan := .mk (some f4l2) none .n f4p4
theorem f4t2 N v0 (K : KT ρ) : f4i N (f4c 3) f4p2 (f4s1 v0) (joinK (some f4lE) K) =
  spec_FormatInt.Z2 N v0 (fun v2 => K .ret (f4s8 v2)) :=
 viaSeqS (fun k => spec_FormatInt.Z3 N v0 k) (by kernel_rfl) (f4t3 N (K := seqK (fun σ => f4i N (f4c 7) f4p4 σ (joinK (some f4lE) K)) (joinK (some f4lE) K)) ..) (fx2 fun v3 v0 => f4t4 N v3 v0 K) (by kernel_rfl)
noncomputable def f4p0 : Plan := .mk (some f4l1) none .n f4p2
theorem f4t0 N v0 (K : KT ρ) : f4i N (f4c 1) f4p0 (f4s0 v0) (joinK (some f4lE) K) =
  spec_FormatInt.Z0 N v0 (fun v2 => K .ret (f4s8 v2)) :=
 viaSeqS (fun k => spec_FormatInt.Z1 N v0 k) (by kernel_rfl) (f4t1 N (K := seqK (fun σ => f4i N (f4c 3) f4p2 σ (joinK (some f4lE) K)) (joinK (some f4lE) K)) ..) (funext fun v0 => f4t2 N v0 K) (by kernel_rfl)
theorem f4m (N : Nat) (v0 : Int) : f4i N (f4c 1) f4p0 (f4s0 v0) (joinK (some f4lE) (finK tab f4sig Tryd.f4.results.toList)) = spec_FormatInt.Z0 N v0 (fun v2 => some ((), (v2, ()))) :=
  (f4t0 N v0 (finK tab f4sig Tryd.f4.results.toList)).trans (by kernel_rfl)
theorem f4ok (h : spec_FormatInt.Spec) : EntryOk Tryd.prog 4 e4 :=
  entry_of_code (sig := f4sig) (c := (f4c 1)) (pl := f4p0) (je := (some f4lE)) (B := f4B) Tryd.func4 (by kernel_rfl) (by kernel_rfl) (by kernel_rfl) tabOk f4GOk (by kernel_rfl) (by kernel_rfl) (by kernel_rfl) (by kernel_rfl) fun X hb hp => by
    obtain ⟨v0, _⟩ := X
    obtain ⟨N, h⟩ := h v0 hp
    exact ⟨N, (f4m N v0).trans (h N (Nat.le_refl N))⟩
theorem e4ok : EntryOk Tryd.prog 4 e4 := f4ok spec_FormatInt.ok
end Go.Fw
namespace Go.Fw
variable {ρ : Type}
open Go.Proofs
noncomputable def f6sig : Sig := ⟨[⟨.int .i64, false, false⟩], [⟨.str, false, false⟩]⟩
noncomputable def e6 : Entry := ⟨f6sig, (some fun X => strconv_Itoa.P X.1), fun X => ((), ((strconv_Itoa.g X.1), ()))⟩
noncomputable def f6layren : Go.Shelf.Ren := ⟨fun | 171 => 6 | 243 => 7 | 246 => 8 | 283 => 9 | 284 => 10 | 285 => 11 | 286 => 12 | 129 => 14 | 317 => 13 | 318 => 15 | 319 => 16 | 320 => 17 | 337 => 18 | 338 => 19 | n => n, fun | 3 => 3 | 9 => 9 | 2 => 2 | 4 => 4 | 171 => 26 | 0 => 0 | 53 => 27 | 37 => 24 | 5 => 5 | 173 => 30 | 212 => 34 | 51 => 35 | 20 => 20 | 213 => 36 | 46 => 37 | 232 => 40 | 233 => 41 | n => n, fun | 17 => 0 | 18 => 1 | 19 => 2 | n => n⟩
theorem f6lay : LaysM.n171 Tryd.prog f6layren := { mixed := (by kernel_rfl), f129 := Tryd.func14.trans (congrArg some (by kernel_rfl)), f171 := Tryd.func6.trans (congrArg some (by kernel_rfl)), f243 := Tryd.func7.trans (congrArg some (by kernel_rfl)), f246 := Tryd.func8.trans (congrArg some (by kernel_rfl)), f283 := Tryd.func9.trans (congrArg some (by kernel_rfl)), f284 := Tryd.func10.trans (congrArg some (by kernel_rfl)), f285 := Tryd.func11.trans (congrArg some (by kernel_rfl)), f286 := Tryd.func12.trans (congrArg some (by kernel_rfl)), f317 := Tryd.func13.trans (congrArg some (by kernel_rfl)), f318 := Tryd.func15.trans (congrArg some (by kernel_rfl)), f319 := Tryd.func16.trans (congrArg some (by kernel_rfl)), f320 := Tryd.func17.trans (congrArg some (by kernel_rfl)), f337 := Tryd.func18.trans (congrArg some (by kernel_rfl)), f338 := Tryd.func19.trans (congrArg some (by kernel_rfl)), t0 := Tryd.underlying0, a0 := Tryd.isAgg0, z0 := Tryd.sizeOf0, v0 := Tryd.zeroValue0, t2 := Tryd.underlying2, a2 := Tryd.isAgg2, z2 := Tryd.sizeOf2, v2 := Tryd.zeroValue2, t3 := Tryd.underlying3, a3 := Tryd.isAgg3, z3 := Tryd.sizeOf3, v3 := Tryd.zeroValue3, t4 := Tryd.underlying4, a4 := Tryd.isAgg4, z4 := Tryd.sizeOf4, v4 := Tryd.zeroValue4, t5 := Tryd.underlying5, a5 := Tryd.isAgg5, z5 := Tryd.sizeOf5, v5 := Tryd.zeroValue5, t9 := Tryd.underlying9, a9 := Tryd.isAgg9, z9 := Tryd.sizeOf9, v9 := Tryd.zeroValue9, t20 := Tryd.underlying20, a20 := Tryd.isAgg20, z20 := Tryd.sizeOf20, v20 := Tryd.zeroValue20, t37 := Tryd.underlying24, a37 := Tryd.isAgg24, z37 := Tryd.sizeOf24, v37 := Tryd.zeroValue24, t46 := Tryd.underlying37, a46 := Tryd.isAgg37, z46 := Tryd.sizeOf37, v46 := Tryd.zeroValue37, t51 := Tryd.underlying35, a51 := Tryd.isAgg35, z51 := Tryd.sizeOf35, v51 := Tryd.zeroValue35, t53 := Tryd.underlying27, a53 := Tryd.isAgg27, z53 := Tryd.sizeOf27, v53 := Tryd.zeroValue27, t171 := Tryd.underlying26, a171 := Tryd.isAgg26, z171 := Tryd.sizeOf26, v171 := Tryd.zeroValue26, t173 := Tryd.underlying30, a173 := Tryd.isAgg30, z173 := Tryd.sizeOf30, v173 := Tryd.zeroValue30, t212 := Tryd.underlying34, a212 := Tryd.isAgg34, z212 := Tryd.sizeOf34, v212 := Tryd.zeroValue34, t213 := Tryd.underlying36, a213 := Tryd.isAgg36, z213 := Tryd.sizeOf36, t232 := Tryd.underlying40, a232 := Tryd.isAgg40, z232 := Tryd.sizeOf40, v232 := Tryd.zeroValue40, t233 := Tryd.underlying41, a233 := Tryd.isAgg41, z233 := Tryd.sizeOf41, v233 := Tryd.zeroValue41, g17 := (by kernel_rfl), g18 := (by kernel_rfl), g19 := (by kernel_rfl), i0 := (by kernel_rfl), i2 := (by kernel_rfl), i3 := (by kernel_rfl), i4 := (by kernel_rfl), i5 := (by kernel_rfl), i9 := (by kernel_rfl), i20 := (by kernel_rfl), i37 := (by kernel_rfl), i46 := (by kernel_rfl), i51 := (by kernel_rfl), i53 := (by kernel_rfl), i171 := (by kernel_rfl), i173 := (by kernel_rfl), i212 := (by kernel_rfl), i232 := (by kernel_rfl), i233 := (by kernel_rfl), m17 := (by kernel_rfl), m18 := (by kernel_rfl), m19 := (by kernel_rfl) }
theorem f6ok (_ : True) : EntryOk Tryd.prog 6 e6 := itoa_ok tab0 f6lay
theorem e6ok : EntryOk Tryd.prog 6 e6 := f6ok strconv_Itoa.ok
end Go.Fw
namespace Go.Fw
variable {ρ : Type}
open Go.Proofs
noncomputable def f5sig : Sig := ⟨[⟨.int .i64, false, false⟩], [⟨.str, false, false⟩]⟩
noncomputable def e5 : Entry := ⟨f5sig, (some fun X => impl_FormatInt.P X.1), fun X => ((), ((impl_FormatInt.g X.1), ()))⟩
noncomputable def f5G : Gm := addG emptyG 6 e6
theorem f5GOk : GOk Tryd.prog f5G := (GOk.nil).add e6ok (by kernel_rfl)
noncomputable def f5lE : Clean := ⟨[], [], [], [], []⟩
noncomputable def f5s0 (v0 : Int) : St := initSt f5sig.ps (v0, ())
noncomputable def f5s1 (v2 : ByteArray) : St := stOf [(2, .c (.str v2))] [] []
noncomputable def f5l1 : Clean := ⟨[2], [], [], [], []⟩
noncomputable def f5B : Nat → Option Clean := lookL [(1000000, f5l1)]
noncomputable abbrev f5i {ρ : Type} (N : Nat) (c : Code) (p : Plan) (σ : St) (K : KT ρ) : Option ρ := iCode f5G tab f5B N c p σ K
noncomputable def f5c (n : Nat) : Code := codeN 99 (bodyOf Tryd.f5) n
theorem f5t0 N v0 (K : KT ρ) : f5i N (f5c 1) .n (f5s0 v0) (joinK (some f5lE) K) =
  impl_FormatInt.Z0 N v0 (fun v2 => K .ret (f5s1 v2)) := by kernel_rfl
theorem f5m (N : Nat) (v0 : Int) : f5i N (f5c 1) .n (f5s0 v0) (joinK (some f5lE) (finK tab f5sig Tryd.f5.results.toList)) = impl_FormatInt.Z0 N v0 (fun v2 => some ((), (v2, ()))) :=
  (f5t0 N v0 (finK tab f5sig Tryd.f5.results.toList)).trans (by kernel_rfl)
theorem f5ok (h : impl_FormatInt.Spec) : EntryOk Tryd.prog 5 e5 :=
  entry_of_code (sig := f5sig) (c := (f5c 1)) (pl := .n) (je := (some f5lE)) (B := f5B) Tryd.func5 (by kernel_rfl) (by kernel_rfl) (by kernel_rfl) tabOk f5GOk (by kernel_rfl) (by kernel_rfl) (by kernel_rfl) (by kernel_rfl) fun X hb hp => by
    obtain ⟨v0, _⟩ := X
    obtain ⟨N, h⟩ := h v0 hp
    exact ⟨N, (f5m N v0).trans (h N (Nat.le_refl N))⟩
theorem e5ok : EntryOk Tryd.prog 5 e5 := f5ok impl_FormatInt.ok
end Go.Fw
namespace Go.Fw
variable {ρ : Type}
open Go.Proofs
noncomputable def f3sig : Sig := ⟨[⟨.int .i64, false, false⟩], [⟨.bool, false, false⟩]⟩
noncomputable def e3 : Entry := ⟨f3sig, (some fun X => laws_FnExactFormatInt.P X.1), fun X => ((), ((laws_FnExactFormatInt.g X.1), ()))⟩
noncomputable def f3G : Gm := addG (addG emptyG 4 e4) 5 e5
theorem f3GOk : GOk Tryd.prog f3G := ((GOk.nil).add e4ok (by kernel_rfl)).add e5ok (by kernel_rfl)
noncomputable def f3lE : Clean := ⟨[], [], [], [], []⟩
noncomputable def f3s0 (v0 : Int) : St := initSt f3sig.ps (v0, ())
noncomputable def f3s1 (v2 : Bool) : St := stOf [(2, xB v2)] [] []
noncomputable def f3l1 : Clean := ⟨[2], [], [], [], []⟩
noncomputable def f3B : Nat → Option Clean := lookL [(1000000, f3l1)]
noncomputable abbrev f3i {ρ : Type} (N : Nat) (c : Code) (p : Plan) (σ : St) (K : KT ρ) : Option ρ := iCode f3G tab f3B N c p σ K
noncomputable def f3c (n : Nat) : Code := codeN 99 (bodyOf Tryd.f3) n
theorem f3t0 N v0 (K : KT ρ) : f3i N (f3c 1) .n (f3s0 v0) (joinK (some f3lE) K) =
  laws_FnExactFormatInt.Z0 N v0 (fun v2 => K .ret (f3s1 v2)) := by kernel_rfl
theorem f3m (N : Nat) (v0 : Int) : f3i N (f3c 1) .n (f3s0 v0) (joinK (some f3lE) (finK tab f3sig Tryd.f3.results.toList)) = laws_FnExactFormatInt.Z0 N v0 (fun v2 => some ((), (v2, ()))) :=
  (f3t0 N v0 (finK tab f3sig Tryd.f3.results.toList)).trans (by kernel_rfl)
theorem f3ok (h : laws_FnExactFormatInt.Spec) : EntryOk Tryd.prog 3 e3 :=
  entry_of_code (sig := f3sig) (c := (f3c 1)) (pl := .n) (je := (some f3lE)) (B := f3B) Tryd.func3 (by kernel_rfl) (by kernel_rfl) (by kernel_rfl) tabOk f3GOk (by kernel_rfl) (by kernel_rfl) (by kernel_rfl) (by kernel_rfl) fun X hb hp => by
    obtain ⟨v0, _⟩ := X
    obtain ⟨N, h⟩ := h v0 hp
    exact ⟨N, (f3m N v0).trans (h N (Nat.le_refl N))⟩
theorem e3ok : EntryOk Tryd.prog 3 e3 := f3ok laws_FnExactFormatInt.ok
end Go.Fw
