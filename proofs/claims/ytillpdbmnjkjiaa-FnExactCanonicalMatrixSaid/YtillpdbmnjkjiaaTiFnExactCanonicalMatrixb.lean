/- The ties: the program's text comes to the plain functions. Nothing is assumed. -/
import Derived.Test.YtillpdbmnjkjiaaPuFnExactCanonicalMatrixa
import Derived.Test.YtillpdbmnjkjiaaTiFnExactCanonicalMatrixa
import Derived.Test.YtillpdbmnjkjiaaPuFnExactCanonicalMatrixb
set_option linter.unusedVariables false
set_option linter.unusedSimpArgs false
set_option maxRecDepth 100000
namespace Go.Fw
variable {ρ : Type}
open Go.Proofs
noncomputable def f133sig : Sig := ⟨[⟨.sl 3 (.int .i64), false, false⟩, ⟨.int .i64, false, false⟩], [⟨.int .i64, false, false⟩]⟩
noncomputable def e133 : Entry := ⟨f133sig, none, fun X => ((), ((slices_Index_int_int.g X.1 X.2.1), ()))⟩
noncomputable def f133G : Gm := emptyG
theorem f133GOk : GOk Try.prog f133G := GOk.nil
noncomputable def f133lE : Clean := ⟨[], [], [], [], []⟩
noncomputable def f133s0 (v0 : LI) (v1 : Int) : St := initSt f133sig.ps (v0, (v1, ()))
noncomputable def f133s1 (v0 : LI) (v1 : Int) : St := stOf [(0, .c (.sn 3 tI v0 none)), (1, xi v1)] [] []
noncomputable def f133l1 : Clean := ⟨[0, 1], [], [], [], []⟩
noncomputable def f133s2 (v0 : LI) (v1 v7 v8 : Int) : St := stOf [(0, .c (.sn 3 tI v0 none)), (1, xi v1), (7, xi v7), (8, xi v8)] [] []
noncomputable def f133l2 : Clean := ⟨[0, 1, 7, 8], [], [], [], []⟩
noncomputable def f133s3  : St := stOf [] [] []
noncomputable def f133l3 : Clean := ⟨[], [], [], [], []⟩
noncomputable def f133s4 (v4 : Int) : St := stOf [(4, xi v4)] [] []
noncomputable def f133l4 : Clean := ⟨[4], [], [], [], []⟩
noncomputable def f133B : Nat → Option Clean := lookL [(0, f133l3), (1000000, f133l4)]
noncomputable abbrev f133i {ρ : Type} (N : Nat) (c : Code) (p : Plan) (σ : St) (K : KT ρ) : Option ρ := iCode f133G tab f133B N c p σ K
noncomputable def f133c (n : Nat) : Code := codeN 99 (bodyOf Try.f133) n
theorem f133t1 N v0 v1 (K : KT ρ) : f133i N (f133c 2) .n (f133s0 v0 v1) (joinK (some f133l1) K) =
  slices_Index_int_int.Z1 N v0 v1 (fun v0 v1 => K .nrm (f133s1 v0 v1)) := by kernel_rfl
theorem f133t4 N v0 v1 (K : KT ρ) : f133i N (f133c 9) .n (f133s1 v0 v1) (joinK (some f133l2) K) =
  slices_Index_int_int.Z4 N v0 v1 (fun v0 v1 v7 v8 => K .nrm (f133s2 v0 v1 v7 v8)) := by kernel_rfl
theorem f133t7 N v0 v1 v7 v8 (K : KT ρ) : f133i N (f133c 37) .n (f133s2 v0 v1 v7 v8) (joinK (some f133l2) K) =
  slices_Index_int_int.Z7 N v0 v1 v7 v8 (fun v0 v1 v7 v8 => K .nrm (f133s2 v0 v1 v7 v8)) (K (.exit 0) f133s3) (fun v4 => K .ret (f133s4 v4)) := by kernel_rfl
noncomputable def f133p6 : Plan := .mk none (some f133l2) .n .n
noncomputable abbrev f133w6 {ρ : Type} (N M : Nat) (σ : St) (K : KT ρ) : Option ρ := loopC (fun σ K => f133i N (f133c 37) .n σ K) f133l2 M σ K
theorem f133t6L {ρ : Type} (N : Nat) (K : KT ρ) : ∀ (M : Nat) (v0 : LI) (v1 v7 v8 : Int), f133w6 N M (f133s2 v0 v1 v7 v8) K =
  slices_Index_int_int.Z6L N (K (.exit 0) f133s3) (fun v4 => K .ret (f133s4 v4)) M v0 v1 v7 v8
  | 0, _, _, _, _ => rfl
  | M + 1, v0, v1, v7, v8 => viaRoundS (fun k => slices_Index_int_int.Z7 N v0 v1 v7 v8 k (K (.exit 0) f133s3) (fun v4 => K .ret (f133s4 v4))) (f133t7 N (K := seqK (fun σ => f133w6 N M σ K) K) ..) (fx4 fun v0 v1 v7 v8 => f133t6L N K M v0 v1 v7 v8) (by kernel_rfl)
theorem f133t6 N v0 v1 v7 v8 (K : KT ρ) : f133i N (f133c 21) f133p6 (f133s2 v0 v1 v7 v8) (joinK (some f133l3) K) =
  slices_Index_int_int.Z6 N v0 v1 v7 v8 (K (.exit 0) f133s3) (fun v4 => K .ret (f133s4 v4)) :=
 viaLoopS (by kernel_rfl) (f133t6L N (joinK (some f133l3) K) N v0 v1 v7 v8) (by kernel_rfl)
noncomputable def f133p5 : Plan := .mk (some f133l3) none f133p6 .n
theorem f133t5 N v0 v1 v7 v8 (K : KT ρ) : f133i N (f133c 13) f133p5 (f133s2 v0 v1 v7 v8) (joinK (some f133l3) K) =
  slices_Index_int_int.Z5 N v0 v1 v7 v8 (K .nrm f133s3) (fun v4 => K .ret (f133s4 v4)) :=
 viaBlockS (by kernel_rfl) (f133t6 N (K := blockK 0 (joinK (some f133l3) K)) ..) (by kernel_rfl)
noncomputable def f133p3 : Plan := .mk (some f133l2) none .n f133p5
theorem f133t3 N v0 v1 (K : KT ρ) : f133i N (f133c 5) f133p3 (f133s1 v0 v1) (joinK (some f133l3) K) =
  slices_Index_int_int.Z3 N v0 v1 (K .nrm f133s3) (fun v4 => K .ret (f133s4 v4)) :=
 viaSeqS (fun k => slices_Index_int_int.Z4 N v0 v1 k) (by kernel_rfl) (f133t4 N (K := seqK (fun σ => f133i N (f133c 13) f133p5 σ (joinK (some f133l3) K)) (joinK (some f133l3) K)) ..) (fx4 fun v0 v1 v7 v8 => f133t5 N v0 v1 v7 v8 K) (by kernel_rfl)
theorem f133t8 N  (K : KT ρ) : f133i N (f133c 7) .n f133s3 (joinK (some f133lE) K) =
  slices_Index_int_int.Z8 N (fun v4 => K .ret (f133s4 v4)) := by kernel_rfl
noncomputable def f133p2 : Plan := .mk (some f133l3) none f133p3 .n
theorem f133t2 N v0 v1 (K : KT ρ) : f133i N (f133c 3) f133p2 (f133s1 v0 v1) (joinK (some f133lE) K) =
  slices_Index_int_int.Z2 N v0 v1 (fun v4 => K .ret (f133s4 v4)) :=
 viaSeqS (fun k => slices_Index_int_int.Z3 N v0 v1 k (fun v4 => K .ret (f133s4 v4))) (by kernel_rfl) (f133t3 N (K := seqK (fun σ => f133i N (f133c 7) .n σ (joinK (some f133lE) K)) (joinK (some f133lE) K)) ..) (f133t8 N K) (by kernel_rfl)
noncomputable def f133p0 : Plan := .mk (some f133l1) none .n f133p2
theorem f133t0 N v0 v1 (K : KT ρ) : f133i N (f133c 1) f133p0 (f133s0 v0 v1) (joinK (some f133lE) K) =
  slices_Index_int_int.Z0 N v0 v1 (fun v4 => K .ret (f133s4 v4)) :=
 viaSeqS (fun k => slices_Index_int_int.Z1 N v0 v1 k) (by kernel_rfl) (f133t1 N (K := seqK (fun σ => f133i N (f133c 3) f133p2 σ (joinK (some f133lE) K)) (joinK (some f133lE) K)) ..) (fx2 fun v0 v1 => f133t2 N v0 v1 K) (by kernel_rfl)
theorem f133m (N : Nat) (v0 : LI) (v1 : Int) : f133i N (f133c 1) f133p0 (f133s0 v0 v1) (joinK (some f133lE) (finK tab f133sig Try.f133.results.toList)) = slices_Index_int_int.Z0 N v0 v1 (fun v4 => some ((), (v4, ()))) :=
  (f133t0 N v0 v1 (finK tab f133sig Try.f133.results.toList)).trans (by kernel_rfl)
theorem f133ok (h : slices_Index_int_int.Spec) : EntryOk Try.prog 133 e133 :=
  entry_of_code (sig := f133sig) (c := (f133c 1)) (pl := f133p0) (je := (some f133lE)) (B := f133B) Try.func133 (by kernel_rfl) (by kernel_rfl) (by kernel_rfl) tabOk f133GOk (by kernel_rfl) (by kernel_rfl) (by kernel_rfl) (by kernel_rfl) fun X hb hp => by
    obtain ⟨v0, v1, _⟩ := X
    obtain ⟨N, h⟩ := h v0 v1 hb.1
    exact ⟨N, (f133m N v0 v1).trans (h N (Nat.le_refl N))⟩
theorem e133ok : EntryOk Try.prog 133 e133 := f133ok slices_Index_int_int.ok
end Go.Fw
namespace Go.Fw
variable {ρ : Type}
open Go.Proofs
noncomputable def f116sig : Sig := ⟨[⟨.sl 3 (.int .i64), false, false⟩, ⟨.int .i64, false, false⟩], [⟨.bool, false, false⟩]⟩
noncomputable def e116 : Entry := ⟨f116sig, none, fun X => ((), ((slices_Contains_int_int.g X.1 X.2.1), ()))⟩
noncomputable def f116G : Gm := addG emptyG 133 e133
theorem f116GOk : GOk Try.prog f116G := (GOk.nil).add e133ok (by kernel_rfl)
noncomputable def f116lE : Clean := ⟨[], [], [], [], []⟩
noncomputable def f116s0 (v0 : LI) (v1 : Int) : St := initSt f116sig.ps (v0, (v1, ()))
noncomputable def f116s1 (v4 : Bool) : St := stOf [(4, xB v4)] [] []
noncomputable def f116l1 : Clean := ⟨[4], [], [], [], []⟩
noncomputable def f116B : Nat → Option Clean := lookL [(1000000, f116l1)]
noncomputable abbrev f116i {ρ : Type} (N : Nat) (c : Code) (p : Plan) (σ : St) (K : KT ρ) : Option ρ := iCode f116G tab f116B N c p σ K
noncomputable def f116c (n : Nat) : Code := codeN 99 (bodyOf Try.f116) n
theorem f116t0 N v0 v1 (K : KT ρ) : f116i N (f116c 1) .n (f116s0 v0 v1) (joinK (some f116lE) K) =
  slices_Contains_int_int.Z0 N v0 v1 (fun v4 => K .ret (f116s1 v4)) := by kernel_rfl
theorem f116m (N : Nat) (v0 : LI) (v1 : Int) : f116i N (f116c 1) .n (f116s0 v0 v1) (joinK (some f116lE) (finK tab f116sig Try.f116.results.toList)) = slices_Contains_int_int.Z0 N v0 v1 (fun v4 => some ((), (v4, ()))) :=
  (f116t0 N v0 v1 (finK tab f116sig Try.f116.results.toList)).trans (by kernel_rfl)
theorem f116ok (h : slices_Contains_int_int.Spec) : EntryOk Try.prog 116 e116 :=
  entry_of_code (sig := f116sig) (c := (f116c 1)) (pl := .n) (je := (some f116lE)) (B := f116B) Try.func116 (by kernel_rfl) (by kernel_rfl) (by kernel_rfl) tabOk f116GOk (by kernel_rfl) (by kernel_rfl) (by kernel_rfl) (by kernel_rfl) fun X hb hp => by
    obtain ⟨v0, v1, _⟩ := X
    obtain ⟨N, h⟩ := h v0 v1 hb.1
    exact ⟨N, (f116m N v0 v1).trans (h N (Nat.le_refl N))⟩
theorem e116ok : EntryOk Try.prog 116 e116 := f116ok slices_Contains_int_int.ok
end Go.Fw
namespace Go.Fw
variable {ρ : Type}
open Go.Proofs
noncomputable def f90sig : Sig := ⟨[⟨.sl 3 (.int .i64), false, false⟩, ⟨.int .i64, false, false⟩], [⟨.bool, false, false⟩]⟩
noncomputable def e90 : Entry := ⟨f90sig, none, fun X => ((), ((impl_isOrder.g X.1 X.2.1), ()))⟩
noncomputable def f90G : Gm := addG (addG emptyG 70 e70) 116 e116
theorem f90GOk : GOk Try.prog f90G := ((GOk.nil).add e70ok (by kernel_rfl)).add e116ok (by kernel_rfl)
noncomputable def f90lE : Clean := ⟨[], [], [], [], []⟩
noncomputable def f90s0 (v0 : LI) (v1 : Int) : St := initSt f90sig.ps (v0, (v1, ()))
noncomputable def f90s1 (v0 : LI) (v1 : Int) : St := stOf [(0, .c (.sn 3 tI v0 none)), (1, xi v1)] [] []
noncomputable def f90l1 : Clean := ⟨[0, 1], [], [], [], []⟩
noncomputable def f90s2 (v0 : LI) (v1 : Int) (v11 : LI) (v12 v13 : Int) : St := stOf [(0, .c (.sn 3 tI v0 none)), (1, xi v1), (11, .c (.sn 3 tI v11 none)), (12, xi v12), (13, xi v13)] [] []
noncomputable def f90l2 : Clean := ⟨[0, 1, 11, 12, 13], [], [], [], []⟩
noncomputable def f90s3  : St := stOf [] [] []
noncomputable def f90l3 : Clean := ⟨[], [], [], [], []⟩
noncomputable def f90s4 (v4 : Bool) : St := stOf [(4, xB v4)] [] []
noncomputable def f90l4 : Clean := ⟨[4], [], [], [], []⟩
noncomputable def f90B : Nat → Option Clean := lookL [(0, f90l3), (1000000, f90l4)]
noncomputable abbrev f90i {ρ : Type} (N : Nat) (c : Code) (p : Plan) (σ : St) (K : KT ρ) : Option ρ := iCode f90G tab f90B N c p σ K
noncomputable def f90c (n : Nat) : Code := codeN 99 (bodyOf Try.f90) n
theorem f90t1 N v0 v1 (K : KT ρ) : f90i N (f90c 2) .n (f90s0 v0 v1) (joinK (some f90l1) K) =
  impl_isOrder.Z1 N v0 v1 (fun v0 v1 => K .nrm (f90s1 v0 v1)) := by kernel_rfl
theorem f90t3 N v0 v1 (K : KT ρ) : f90i N (f90c 5) .n (f90s1 v0 v1) (joinK (some f90l1) K) =
  impl_isOrder.Z3 N v0 v1 (fun v0 v1 => K .nrm (f90s1 v0 v1)) (fun v4 => K .ret (f90s4 v4)) := by kernel_rfl
theorem f90t6 N v0 v1 (K : KT ρ) : f90i N (f90c 19) .n (f90s1 v0 v1) (joinK (some f90l2) K) =
  impl_isOrder.Z6 N v0 v1 (fun v0 v1 v11 v12 v13 => K .nrm (f90s2 v0 v1 v11 v12 v13)) := by kernel_rfl
theorem f90t9 N v0 v1 v11 v12 v13 (K : KT ρ) : f90i N (f90c 75) .n (f90s2 v0 v1 v11 v12 v13) (joinK (some f90l2) K) =
  impl_isOrder.Z9 N v0 v1 v11 v12 v13 (fun v0 v1 v11 v12 v13 => K .nrm (f90s2 v0 v1 v11 v12 v13)) (K (.exit 0) f90s3) (fun v4 => K .ret (f90s4 v4)) := by kernel_rfl
noncomputable def f90p8 : Plan := .mk none (some f90l2) .n .n
noncomputable abbrev f90w8 {ρ : Type} (N M : Nat) (σ : St) (K : KT ρ) : Option ρ := loopC (fun σ K => f90i N (f90c 75) .n σ K) f90l2 M σ K
theorem f90t8L {ρ : Type} (N : Nat) (K : KT ρ) : ∀ (M : Nat) (v0 : LI) (v1 : Int) (v11 : LI) (v12 v13 : Int), f90w8 N M (f90s2 v0 v1 v11 v12 v13) K =
  impl_isOrder.Z8L N (K (.exit 0) f90s3) (fun v4 => K .ret (f90s4 v4)) M v0 v1 v11 v12 v13
  | 0, _, _, _, _, _ => rfl
  | M + 1, v0, v1, v11, v12, v13 => viaRoundS (fun k => impl_isOrder.Z9 N v0 v1 v11 v12 v13 k (K (.exit 0) f90s3) (fun v4 => K .ret (f90s4 v4))) (f90t9 N (K := seqK (fun σ => f90w8 N M σ K) K) ..) (fx5 fun v0 v1 v11 v12 v13 => f90t8L N K M v0 v1 v11 v12 v13) (by kernel_rfl)
theorem f90t8 N v0 v1 v11 v12 v13 (K : KT ρ) : f90i N (f90c 43) f90p8 (f90s2 v0 v1 v11 v12 v13) (joinK (some f90l3) K) =
  impl_isOrder.Z8 N v0 v1 v11 v12 v13 (K (.exit 0) f90s3) (fun v4 => K .ret (f90s4 v4)) :=
 viaLoopS (by kernel_rfl) (f90t8L N (joinK (some f90l3) K) N v0 v1 v11 v12 v13) (by kernel_rfl)
noncomputable def f90p7 : Plan := .mk (some f90l3) none f90p8 .n
theorem f90t7 N v0 v1 v11 v12 v13 (K : KT ρ) : f90i N (f90c 27) f90p7 (f90s2 v0 v1 v11 v12 v13) (joinK (some f90l3) K) =
  impl_isOrder.Z7 N v0 v1 v11 v12 v13 (K .nrm f90s3) (fun v4 => K .ret (f90s4 v4)) :=
 viaBlockS (by kernel_rfl) (f90t8 N (K := blockK 0 (joinK (some f90l3) K)) ..) (by kernel_rfl)
noncomputable def f90p5 : Plan := .mk (some f90l2) none .n f90p7
theorem f90t5 N v0 v1 (K : KT ρ) : f90i N (f90c 11) f90p5 (f90s1 v0 v1) (joinK (some f90l3) K) =
  impl_isOrder.Z5 N v0 v1 (K .nrm f90s3) (fun v4 => K .ret (f90s4 v4)) :=
 viaSeqS (fun k => impl_isOrder.Z6 N v0 v1 k) (by kernel_rfl) (f90t6 N (K := seqK (fun σ => f90i N (f90c 27) f90p7 σ (joinK (some f90l3) K)) (joinK (some f90l3) K)) ..) (fx5 fun v0 v1 v11 v12 v13 => f90t7 N v0 v1 v11 v12 v13 K) (by kernel_rfl)
theorem f90t10 N  (K : KT ρ) : f90i N (f90c 15) .n f90s3 (joinK (some f90lE) K) =
  impl_isOrder.Z10 N (fun v4 => K .ret (f90s4 v4)) := by kernel_rfl
noncomputable def f90p4 : Plan := .mk (some f90l3) none f90p5 .n
theorem f90t4 N v0 v1 (K : KT ρ) : f90i N (f90c 7) f90p4 (f90s1 v0 v1) (joinK (some f90lE) K) =
  impl_isOrder.Z4 N v0 v1 (fun v4 => K .ret (f90s4 v4)) :=
 viaSeqS (fun k => impl_isOrder.Z5 N v0 v1 k (fun v4 => K .ret (f90s4 v4))) (by kernel_rfl) (f90t5 N (K := seqK (fun σ => f90i N (f90c 15) .n σ (joinK (some f90lE) K)) (joinK (some f90lE) K)) ..) (f90t10 N K) (by kernel_rfl)
noncomputable def f90p2 : Plan := .mk (some f90l1) none .n f90p4
theorem f90t2 N v0 v1 (K : KT ρ) : f90i N (f90c 3) f90p2 (f90s1 v0 v1) (joinK (some f90lE) K) =
  impl_isOrder.Z2 N v0 v1 (fun v4 => K .ret (f90s4 v4)) :=
 viaSeqS (fun k => impl_isOrder.Z3 N v0 v1 k (fun v4 => K .ret (f90s4 v4))) (by kernel_rfl) (f90t3 N (K := seqK (fun σ => f90i N (f90c 7) f90p4 σ (joinK (some f90lE) K)) (joinK (some f90lE) K)) ..) (fx2 fun v0 v1 => f90t4 N v0 v1 K) (by kernel_rfl)
noncomputable def f90p0 : Plan := .mk (some f90l1) none .n f90p2
theorem f90t0 N v0 v1 (K : KT ρ) : f90i N (f90c 1) f90p0 (f90s0 v0 v1) (joinK (some f90lE) K) =
  impl_isOrder.Z0 N v0 v1 (fun v4 => K .ret (f90s4 v4)) :=
 viaSeqS (fun k => impl_isOrder.Z1 N v0 v1 k) (by kernel_rfl) (f90t1 N (K := seqK (fun σ => f90i N (f90c 3) f90p2 σ (joinK (some f90lE) K)) (joinK (some f90lE) K)) ..) (fx2 fun v0 v1 => f90t2 N v0 v1 K) (by kernel_rfl)
theorem f90m (N : Nat) (v0 : LI) (v1 : Int) : f90i N (f90c 1) f90p0 (f90s0 v0 v1) (joinK (some f90lE) (finK tab f90sig Try.f90.results.toList)) = impl_isOrder.Z0 N v0 v1 (fun v4 => some ((), (v4, ()))) :=
  (f90t0 N v0 v1 (finK tab f90sig Try.f90.results.toList)).trans (by kernel_rfl)
theorem f90ok (h : impl_isOrder.Spec) : EntryOk Try.prog 90 e90 :=
  entry_of_code (sig := f90sig) (c := (f90c 1)) (pl := f90p0) (je := (some f90lE)) (B := f90B) Try.func90 (by kernel_rfl) (by kernel_rfl) (by kernel_rfl) tabOk f90GOk (by kernel_rfl) (by kernel_rfl) (by kernel_rfl) (by kernel_rfl) fun X hb hp => by
    obtain ⟨v0, v1, _⟩ := X
    obtain ⟨N, h⟩ := h v0 v1 hb.1
    exact ⟨N, (f90m N v0 v1).trans (h N (Nat.le_refl N))⟩
theorem e90ok : EntryOk Try.prog 90 e90 := f90ok impl_isOrder.ok
end Go.Fw
namespace Go.Fw
variable {ρ : Type}
open Go.Proofs
noncomputable def f47sig : Sig := ⟨[⟨.pair (.int .i64) (.pair (.int .i64) (.sl 3 (.int .i64))), true, false⟩, ⟨.sl 3 (.int .i64), false, false⟩], [⟨.pair (.int .i64) (.pair (.int .i64) (.sl 3 (.int .i64))), true, false⟩, ⟨.bool, false, false⟩]⟩
noncomputable def e47 : Entry := ⟨f47sig, none, fun X => ((), ((impl_RenameMatrix.g X.1 X.2.1).1, ((impl_RenameMatrix.g X.1 X.2.1).2, ())))⟩
noncomputable def f47G : Gm := addG (addG (addG emptyG 31 e31) 83 e83) 90 e90
theorem f47GOk : GOk Try.prog f47G := (((GOk.nil).add e31ok (by kernel_rfl)).add e83ok (by kernel_rfl)).add e90ok (by kernel_rfl)
noncomputable def f47lE : Clean := ⟨[], [], [], [], []⟩
noncomputable def f47s0 (v0 : MT) (v1 : LI) : St := initSt f47sig.ps (v0, (v1, ()))
noncomputable def f47s1 (v1 : LI) (v2_0 v2_1 : Int) (v2_2 : LI) (v4_0 v4_1 : Int) : St := stOf [(1, .c (.sn 3 tI v1 none)), (2, xb 2), (4, xb 4)] [(2, (30, [yi v2_0, yi v2_1, .sn 3 tI v2_2 none])), (4, (30, [yi v4_0, yi v4_1, .nil]))] []
noncomputable def f47l1 : Clean := ⟨[1, 2, 4], [2, 4], [], [], []⟩
noncomputable def f47s2 (v6_2 v1 : LI) (v2_0 v2_1 : Int) (v2_2 : LI) (v4_0 v4_1 v6_0 v6_1 : Int) : St := stOf [(1, .c (.sn 3 tI v1 none)), (2, xb 2), (4, xb 4), (6, xb 6)] [(2, (30, [yi v2_0, yi v2_1, .sn 3 tI v2_2 none])), (4, (30, [yi v4_0, yi v4_1, .nil])), (6, (30, [yi v6_0, yi v6_1, .own 20000386]))] [(20000386, (⟨3, .int .i64, v6_2, true, false⟩ : Row))]
noncomputable def f47l2 : Clean := ⟨[1, 2, 4, 6], [2, 4, 6], [], [], [(⟨true, 6, 2⟩, 20000386)]⟩
noncomputable def f47s3 (v6_2 v1 : LI) (v7 v2_0 v2_1 : Int) (v2_2 : LI) (v4_0 v4_1 v6_0 v6_1 : Int) : St := stOf [(1, .c (.sn 3 tI v1 none)), (2, xb 2), (4, xb 4), (6, xb 6), (7, xi v7)] [(2, (30, [yi v2_0, yi v2_1, .sn 3 tI v2_2 none])), (4, (30, [yi v4_0, yi v4_1, .nil])), (6, (30, [yi v6_0, yi v6_1, .own 20000386]))] [(20000386, (⟨3, .int .i64, v6_2, true, false⟩ : Row))]
noncomputable def f47l3 : Clean := ⟨[1, 2, 4, 6, 7], [2, 4, 6], [], [], [(⟨true, 6, 2⟩, 20000386)]⟩
noncomputable def f47s4 (v6_2 v1 : LI) (v7 v8 v2_0 v2_1 : Int) (v2_2 : LI) (v4_0 v4_1 v6_0 v6_1 : Int) : St := stOf [(1, .c (.sn 3 tI v1 none)), (2, xb 2), (4, xb 4), (6, xb 6), (7, xi v7), (8, xi v8)] [(2, (30, [yi v2_0, yi v2_1, .sn 3 tI v2_2 none])), (4, (30, [yi v4_0, yi v4_1, .nil])), (6, (30, [yi v6_0, yi v6_1, .own 20000386]))] [(20000386, (⟨3, .int .i64, v6_2, true, false⟩ : Row))]
noncomputable def f47l4 : Clean := ⟨[1, 2, 4, 6, 7, 8], [2, 4, 6], [], [], [(⟨true, 6, 2⟩, 20000386)]⟩
noncomputable def f47s5 (v6_2 v1 : LI) (v7 v8 v9 v2_0 v2_1 : Int) (v2_2 : LI) (v4_0 v4_1 v6_0 v6_1 : Int) : St := stOf [(1, .c (.sn 3 tI v1 none)), (2, xb 2), (4, xb 4), (6, xb 6), (7, xi v7), (8, xi v8), (9, xi v9)] [(2, (30, [yi v2_0, yi v2_1, .sn 3 tI v2_2 none])), (4, (30, [yi v4_0, yi v4_1, .nil])), (6, (30, [yi v6_0, yi v6_1, .own 20000386]))] [(20000386, (⟨3, .int .i64, v6_2, true, false⟩ : Row))]
noncomputable def f47l5 : Clean := ⟨[1, 2, 4, 6, 7, 8, 9], [2, 4, 6], [], [], [(⟨true, 6, 2⟩, 20000386)]⟩
noncomputable def f47s6 (v6_2 : LI) (v4_0 v4_1 v6_0 v6_1 : Int) : St := stOf [(4, xb 4), (6, xb 6)] [(4, (30, [yi v4_0, yi v4_1, .nil])), (6, (30, [yi v6_0, yi v6_1, .own 20000386]))] [(20000386, (⟨3, .int .i64, v6_2, true, false⟩ : Row))]
noncomputable def f47l6 : Clean := ⟨[4, 6], [4, 6], [], [], [(⟨true, 6, 2⟩, 20000386)]⟩
noncomputable def f47s7 (v4_2 : LI) (v5 : Bool) (v4_0 v4_1 : Int) : St := stOf [(4, xb 4), (5, xB v5)] [(4, (30, [yi v4_0, yi v4_1, .own 20000258]))] [(20000258, (⟨3, .int .i64, v4_2, true, false⟩ : Row))]
noncomputable def f47l7 : Clean := ⟨[4, 5], [4], [⟨⟨true, 4, 2⟩, 30000000, 3, .int .i64, true⟩], [], [(⟨true, 4, 2⟩, 20000258)]⟩
noncomputable def f47B : Nat → Option Clean := lookL [(2, f47l3), (1, f47l3), (0, f47l6), (1000000, f47l7)]
noncomputable abbrev f47i {ρ : Type} (N : Nat) (c : Code) (p : Plan) (σ : St) (K : KT ρ) : Option ρ := iCode f47G tab f47B N c p σ K
noncomputable def f47c (n : Nat) : Code := codeN 99 (bodyOf Try.f47) n
theorem f47t1 N v0 v1 (K : KT ρ) : f47i N (f47c 2) .n (f47s0 v0 v1) (joinK (some f47l1) K) =
  impl_RenameMatrix.Z1 N v0 v1 (fun v1 v2_0 v2_1 v2_2 v4_0 v4_1 => K .nrm (f47s1 v1 v2_0 v2_1 v2_2 v4_0 v4_1)) := by kernel_rfl
theorem f47t3 N v1 v2_0 v2_1 v2_2 v4_0 v4_1 (K : KT ρ) : f47i N (f47c 5) .n (f47s1 v1 v2_0 v2_1 v2_2 v4_0 v4_1) (joinK (some f47l1) K) =
  impl_RenameMatrix.Z3 N v1 v2_0 v2_1 v2_2 v4_0 v4_1 (fun v1 v2_0 v2_1 v2_2 v4_0 v4_1 => K .nrm (f47s1 v1 v2_0 v2_1 v2_2 v4_0 v4_1)) (fun v4_2 v5 v4_0 v4_1 => K .ret (f47s7 v4_2 v5 v4_0 v4_1)) := by kernel_rfl
theorem f47t5 N v1 v2_0 v2_1 v2_2 v4_0 v4_1 (K : KT ρ) : f47i N (f47c 11) .n (f47s1 v1 v2_0 v2_1 v2_2 v4_0 v4_1) (joinK (some f47l2) K) =
  impl_RenameMatrix.Z5 N v1 v2_0 v2_1 v2_2 v4_0 v4_1 (fun v6_2 v1 v2_0 v2_1 v2_2 v4_0 v4_1 v6_0 v6_1 => K .nrm (f47s2 v6_2 v1 v2_0 v2_1 v2_2 v4_0 v4_1 v6_0 v6_1)) := by kernel_rfl
theorem f47t8 N v6_2 v1 v2_0 v2_1 v2_2 v4_0 v4_1 v6_0 v6_1 (K : KT ρ) : f47i N (f47c 39) .n (f47s2 v6_2 v1 v2_0 v2_1 v2_2 v4_0 v4_1 v6_0 v6_1) (joinK (some f47l3) K) =
  impl_RenameMatrix.Z8 N v6_2 v1 v2_0 v2_1 v2_2 v4_0 v4_1 v6_0 v6_1 (fun v6_2 v1 v7 v2_0 v2_1 v2_2 v4_0 v4_1 v6_0 v6_1 => K .nrm (f47s3 v6_2 v1 v7 v2_0 v2_1 v2_2 v4_0 v4_1 v6_0 v6_1)) := by kernel_rfl
theorem f47t12 N v6_2 v1 v7 v2_0 v2_1 v2_2 v4_0 v4_1 v6_0 v6_1 (K : KT ρ) : f47i N (f47c 279) .n (f47s3 v6_2 v1 v7 v2_0 v2_1 v2_2 v4_0 v4_1 v6_0 v6_1) (joinK (some f47l3) K) =
  impl_RenameMatrix.Z12 N v6_2 v1 v7 v2_0 v2_1 v2_2 v4_0 v4_1 v6_0 v6_1 (fun v6_2 v1 v7 v2_0 v2_1 v2_2 v4_0 v4_1 v6_0 v6_1 => K .nrm (f47s3 v6_2 v1 v7 v2_0 v2_1 v2_2 v4_0 v4_1 v6_0 v6_1)) (fun v6_2 v4_0 v4_1 v6_0 v6_1 => K (.exit 0) (f47s6 v6_2 v4_0 v4_1 v6_0 v6_1)) := by kernel_rfl
theorem f47t16 N v6_2 v1 v7 v2_0 v2_1 v2_2 v4_0 v4_1 v6_0 v6_1 (K : KT ρ) : f47i N (f47c 2199) .n (f47s3 v6_2 v1 v7 v2_0 v2_1 v2_2 v4_0 v4_1 v6_0 v6_1) (joinK (some f47l4) K) =
  impl_RenameMatrix.Z16 N v6_2 v1 v7 v2_0 v2_1 v2_2 v4_0 v4_1 v6_0 v6_1 (fun v6_2 v1 v7 v8 v2_0 v2_1 v2_2 v4_0 v4_1 v6_0 v6_1 => K .nrm (f47s4 v6_2 v1 v7 v8 v2_0 v2_1 v2_2 v4_0 v4_1 v6_0 v6_1)) := by kernel_rfl
theorem f47t18 N v6_2 v1 v7 v8 v2_0 v2_1 v2_2 v4_0 v4_1 v6_0 v6_1 (K : KT ρ) : f47i N (f47c 5271) .n (f47s4 v6_2 v1 v7 v8 v2_0 v2_1 v2_2 v4_0 v4_1 v6_0 v6_1) (joinK (some f47l4) K) =
  impl_RenameMatrix.Z18 N v6_2 v1 v7 v8 v2_0 v2_1 v2_2 v4_0 v4_1 v6_0 v6_1 (fun v6_2 v1 v7 v8 v2_0 v2_1 v2_2 v4_0 v4_1 v6_0 v6_1 => K .nrm (f47s4 v6_2 v1 v7 v8 v2_0 v2_1 v2_2 v4_0 v4_1 v6_0 v6_1)) := by kernel_rfl
theorem f47t20 N v6_2 v1 v7 v8 v2_0 v2_1 v2_2 v4_0 v4_1 v6_0 v6_1 (K : KT ρ) : f47i N (f47c 11415) .n (f47s4 v6_2 v1 v7 v8 v2_0 v2_1 v2_2 v4_0 v4_1 v6_0 v6_1) (joinK (some f47l5) K) =
  impl_RenameMatrix.Z20 N v6_2 v1 v7 v8 v2_0 v2_1 v2_2 v4_0 v4_1 v6_0 v6_1 (fun v6_2 v1 v7 v8 v9 v2_0 v2_1 v2_2 v4_0 v4_1 v6_0 v6_1 => K .nrm (f47s5 v6_2 v1 v7 v8 v9 v2_0 v2_1 v2_2 v4_0 v4_1 v6_0 v6_1)) := by kernel_rfl
theorem f47t23 N v6_2 v1 v7 v8 v9 v2_0 v2_1 v2_2 v4_0 v4_1 v6_0 v6_1 (K : KT ρ) : f47i N (f47c 40087) .n (f47s5 v6_2 v1 v7 v8 v9 v2_0 v2_1 v2_2 v4_0 v4_1 v6_0 v6_1) (joinK (some f47l5) K) =
  impl_RenameMatrix.Z23 N v6_2 v1 v7 v8 v9 v2_0 v2_1 v2_2 v4_0 v4_1 v6_0 v6_1 (fun v6_2 v1 v7 v8 v9 v2_0 v2_1 v2_2 v4_0 v4_1 v6_0 v6_1 => K .nrm (f47s5 v6_2 v1 v7 v8 v9 v2_0 v2_1 v2_2 v4_0 v4_1 v6_0 v6_1)) (fun v6_2 v1 v7 v2_0 v2_1 v2_2 v4_0 v4_1 v6_0 v6_1 => K (.exit 2) (f47s3 v6_2 v1 v7 v2_0 v2_1 v2_2 v4_0 v4_1 v6_0 v6_1)) := by kernel_rfl
noncomputable def f47p22 : Plan := .mk none (some f47l5) .n .n
noncomputable abbrev f47w22 {ρ : Type} (N M : Nat) (σ : St) (K : KT ρ) : Option ρ := loopC (fun σ K => f47i N (f47c 40087) .n σ K) f47l5 M σ K
theorem f47t22L {ρ : Type} (N : Nat) (K : KT ρ) : ∀ (M : Nat) (v6_2 v1 : LI) (v7 v8 v9 v2_0 v2_1 : Int) (v2_2 : LI) (v4_0 v4_1 v6_0 v6_1 : Int), f47w22 N M (f47s5 v6_2 v1 v7 v8 v9 v2_0 v2_1 v2_2 v4_0 v4_1 v6_0 v6_1) K =
  impl_RenameMatrix.Z22L N (fun v6_2 v1 v7 v2_0 v2_1 v2_2 v4_0 v4_1 v6_0 v6_1 => K (.exit 2) (f47s3 v6_2 v1 v7 v2_0 v2_1 v2_2 v4_0 v4_1 v6_0 v6_1)) M v6_2 v1 v7 v8 v9 v2_0 v2_1 v2_2 v4_0 v4_1 v6_0 v6_1
  | 0, _, _, _, _, _, _, _, _, _, _, _, _ => rfl
  | M + 1, v6_2, v1, v7, v8, v9, v2_0, v2_1, v2_2, v4_0, v4_1, v6_0, v6_1 => viaRoundS (fun k => impl_RenameMatrix.Z23 N v6_2 v1 v7 v8 v9 v2_0 v2_1 v2_2 v4_0 v4_1 v6_0 v6_1 k (fun v6_2 v1 v7 v2_0 v2_1 v2_2 v4_0 v4_1 v6_0 v6_1 => K (.exit 2) (f47s3 v6_2 v1 v7 v2_0 v2_1 v2_2 v4_0 v4_1 v6_0 v6_1))) (f47t23 N (K := seqK (fun σ => f47w22 N M σ K) K) ..) (fx12 fun v6_2 v1 v7 v8 v9 v2_0 v2_1 v2_2 v4_0 v4_1 v6_0 v6_1 => f47t22L N K M v6_2 v1 v7 v8 v9 v2_0 v2_1 v2_2 v4_0 v4_1 v6_0 v6_1) (by kernel_rfl)
theorem f47t22 N v6_2 v1 v7 v8 v9 v2_0 v2_1 v2_2 v4_0 v4_1 v6_0 v6_1 (K : KT ρ) : f47i N (f47c 23703) f47p22 (f47s5 v6_2 v1 v7 v8 v9 v2_0 v2_1 v2_2 v4_0 v4_1 v6_0 v6_1) (joinK (some f47l3) K) =
  impl_RenameMatrix.Z22 N v6_2 v1 v7 v8 v9 v2_0 v2_1 v2_2 v4_0 v4_1 v6_0 v6_1 (fun v6_2 v1 v7 v2_0 v2_1 v2_2 v4_0 v4_1 v6_0 v6_1 => K (.exit 2) (f47s3 v6_2 v1 v7 v2_0 v2_1 v2_2 v4_0 v4_1 v6_0 v6_1)) :=
 viaLoopS (by kernel_rfl) (f47t22L N (joinK (some f47l3) K) N v6_2 v1 v7 v8 v9 v2_0 v2_1 v2_2 v4_0 v4_1 v6_0 v6_1) (by kernel_rfl)
noncomputable def f47p21 : Plan := .mk (some f47l3) none f47p22 .n
theorem f47t21 N v6_2 v1 v7 v8 v9 v2_0 v2_1 v2_2 v4_0 v4_1 v6_0 v6_1 (K : KT ρ) : f47i N (f47c 15511) f47p21 (f47s5 v6_2 v1 v7 v8 v9 v2_0 v2_1 v2_2 v4_0 v4_1 v6_0 v6_1) (joinK (some f47l3) K) =
  impl_RenameMatrix.Z21 N v6_2 v1 v7 v8 v9 v2_0 v2_1 v2_2 v4_0 v4_1 v6_0 v6_1 (fun v6_2 v1 v7 v2_0 v2_1 v2_2 v4_0 v4_1 v6_0 v6_1 => K .nrm (f47s3 v6_2 v1 v7 v2_0 v2_1 v2_2 v4_0 v4_1 v6_0 v6_1)) :=
 viaBlockS (by kernel_rfl) (f47t22 N (K := blockK 2 (joinK (some f47l3) K)) ..) (by kernel_rfl)
noncomputable def f47p19 : Plan := .mk (some f47l5) none .n f47p21
theorem f47t19 N v6_2 v1 v7 v8 v2_0 v2_1 v2_2 v4_0 v4_1 v6_0 v6_1 (K : KT ρ) : f47i N (f47c 7319) f47p19 (f47s4 v6_2 v1 v7 v8 v2_0 v2_1 v2_2 v4_0 v4_1 v6_0 v6_1) (joinK (some f47l3) K) =
  impl_RenameMatrix.Z19 N v6_2 v1 v7 v8 v2_0 v2_1 v2_2 v4_0 v4_1 v6_0 v6_1 (fun v6_2 v1 v7 v2_0 v2_1 v2_2 v4_0 v4_1 v6_0 v6_1 => K .nrm (f47s3 v6_2 v1 v7 v2_0 v2_1 v2_2 v4_0 v4_1 v6_0 v6_1)) :=
 viaSeqS (fun k => impl_RenameMatrix.Z20 N v6_2 v1 v7 v8 v2_0 v2_1 v2_2 v4_0 v4_1 v6_0 v6_1 k) (by kernel_rfl) (f47t20 N (K := seqK (fun σ => f47i N (f47c 15511) f47p21 σ (joinK (some f47l3) K)) (joinK (some f47l3) K)) ..) (fx12 fun v6_2 v1 v7 v8 v9 v2_0 v2_1 v2_2 v4_0 v4_1 v6_0 v6_1 => f47t21 N v6_2 v1 v7 v8 v9 v2_0 v2_1 v2_2 v4_0 v4_1 v6_0 v6_1 K) (by kernel_rfl)
noncomputable def f47p17 : Plan := .mk (some f47l4) none .n f47p19
theorem f47t17 N v6_2 v1 v7 v8 v2_0 v2_1 v2_2 v4_0 v4_1 v6_0 v6_1 (K : KT ρ) : f47i N (f47c 3223) f47p17 (f47s4 v6_2 v1 v7 v8 v2_0 v2_1 v2_2 v4_0 v4_1 v6_0 v6_1) (joinK (some f47l3) K) =
  impl_RenameMatrix.Z17 N v6_2 v1 v7 v8 v2_0 v2_1 v2_2 v4_0 v4_1 v6_0 v6_1 (fun v6_2 v1 v7 v2_0 v2_1 v2_2 v4_0 v4_1 v6_0 v6_1 => K .nrm (f47s3 v6_2 v1 v7 v2_0 v2_1 v2_2 v4_0 v4_1 v6_0 v6_1)) :=
 viaSeqS (fun k => impl_RenameMatrix.Z18 N v6_2 v1 v7 v8 v2_0 v2_1 v2_2 v4_0 v4_1 v6_0 v6_1 k) (by kernel_rfl) (f47t18 N (K := seqK (fun σ => f47i N (f47c 7319) f47p19 σ (joinK (some f47l3) K)) (joinK (some f47l3) K)) ..) (fx11 fun v6_2 v1 v7 v8 v2_0 v2_1 v2_2 v4_0 v4_1 v6_0 v6_1 => f47t19 N v6_2 v1 v7 v8 v2_0 v2_1 v2_2 v4_0 v4_1 v6_0 v6_1 K) (by kernel_rfl)
noncomputable def f47p15 : Plan := .mk (some f47l4) none .n f47p17
theorem f47t15 N v6_2 v1 v7 v2_0 v2_1 v2_2 v4_0 v4_1 v6_0 v6_1 (K : KT ρ) : f47i N (f47c 1175) f47p15 (f47s3 v6_2 v1 v7 v2_0 v2_1 v2_2 v4_0 v4_1 v6_0 v6_1) (joinK (some f47l3) K) =
  impl_RenameMatrix.Z15 N v6_2 v1 v7 v2_0 v2_1 v2_2 v4_0 v4_1 v6_0 v6_1 (fun v6_2 v1 v7 v2_0 v2_1 v2_2 v4_0 v4_1 v6_0 v6_1 => K .nrm (f47s3 v6_2 v1 v7 v2_0 v2_1 v2_2 v4_0 v4_1 v6_0 v6_1)) :=
 viaSeqS (fun k => impl_RenameMatrix.Z16 N v6_2 v1 v7 v2_0 v2_1 v2_2 v4_0 v4_1 v6_0 v6_1 k) (by kernel_rfl) (f47t16 N (K := seqK (fun σ => f47i N (f47c 3223) f47p17 σ (joinK (some f47l3) K)) (joinK (some f47l3) K)) ..) (fx11 fun v6_2 v1 v7 v8 v2_0 v2_1 v2_2 v4_0 v4_1 v6_0 v6_1 => f47t17 N v6_2 v1 v7 v8 v2_0 v2_1 v2_2 v4_0 v4_1 v6_0 v6_1 K) (by kernel_rfl)
noncomputable def f47p14 : Plan := .mk (some f47l3) none f47p15 .n
theorem f47t14 N v6_2 v1 v7 v2_0 v2_1 v2_2 v4_0 v4_1 v6_0 v6_1 (K : KT ρ) : f47i N (f47c 663) f47p14 (f47s3 v6_2 v1 v7 v2_0 v2_1 v2_2 v4_0 v4_1 v6_0 v6_1) (joinK (some f47l3) K) =
  impl_RenameMatrix.Z14 N v6_2 v1 v7 v2_0 v2_1 v2_2 v4_0 v4_1 v6_0 v6_1 (fun v6_2 v1 v7 v2_0 v2_1 v2_2 v4_0 v4_1 v6_0 v6_1 => K .nrm (f47s3 v6_2 v1 v7 v2_0 v2_1 v2_2 v4_0 v4_1 v6_0 v6_1)) :=
 viaBlockS (by kernel_rfl) (f47t15 N (K := blockK 1 (joinK (some f47l3) K)) ..) (by kernel_rfl)
theorem f47t24 N v6_2 v1 v7 v2_0 v2_1 v2_2 v4_0 v4_1 v6_0 v6_1 (K : KT ρ) : f47i N (f47c 919) .n (f47s3 v6_2 v1 v7 v2_0 v2_1 v2_2 v4_0 v4_1 v6_0 v6_1) (joinK (some f47l3) K) =
  impl_RenameMatrix.Z24 N v6_2 v1 v7 v2_0 v2_1 v2_2 v4_0 v4_1 v6_0 v6_1 (fun v6_2 v1 v7 v2_0 v2_1 v2_2 v4_0 v4_1 v6_0 v6_1 => K .nrm (f47s3 v6_2 v1 v7 v2_0 v2_1 v2_2 v4_0 v4_1 v6_0 v6_1)) := by kernel_rfl
noncomputable def f47p13 : Plan := .mk (some f47l3) none f47p14 .n
theorem f47t13 N v6_2 v1 v7 v2_0 v2_1 v2_2 v4_0 v4_1 v6_0 v6_1 (K : KT ρ) : f47i N (f47c 407) f47p13 (f47s3 v6_2 v1 v7 v2_0 v2_1 v2_2 v4_0 v4_1 v6_0 v6_1) (joinK (some f47l3) K) =
  impl_RenameMatrix.Z13 N v6_2 v1 v7 v2_0 v2_1 v2_2 v4_0 v4_1 v6_0 v6_1 (fun v6_2 v1 v7 v2_0 v2_1 v2_2 v4_0 v4_1 v6_0 v6_1 => K .nrm (f47s3 v6_2 v1 v7 v2_0 v2_1 v2_2 v4_0 v4_1 v6_0 v6_1)) :=
 viaSeqS (fun k => impl_RenameMatrix.Z14 N v6_2 v1 v7 v2_0 v2_1 v2_2 v4_0 v4_1 v6_0 v6_1 k) (by kernel_rfl) (f47t14 N (K := seqK (fun σ => f47i N (f47c 919) .n σ (joinK (some f47l3) K)) (joinK (some f47l3) K)) ..) (fx10 fun v6_2 v1 v7 v2_0 v2_1 v2_2 v4_0 v4_1 v6_0 v6_1 => f47t24 N v6_2 v1 v7 v2_0 v2_1 v2_2 v4_0 v4_1 v6_0 v6_1 K) (by kernel_rfl)
noncomputable def f47p11 : Plan := .mk (some f47l3) none .n f47p13
theorem f47t11 N v6_2 v1 v7 v2_0 v2_1 v2_2 v4_0 v4_1 v6_0 v6_1 (K : KT ρ) : f47i N (f47c 151) f47p11 (f47s3 v6_2 v1 v7 v2_0 v2_1 v2_2 v4_0 v4_1 v6_0 v6_1) (joinK (some f47l3) K) =
  impl_RenameMatrix.Z11 N v6_2 v1 v7 v2_0 v2_1 v2_2 v4_0 v4_1 v6_0 v6_1 (fun v6_2 v1 v7 v2_0 v2_1 v2_2 v4_0 v4_1 v6_0 v6_1 => K .nrm (f47s3 v6_2 v1 v7 v2_0 v2_1 v2_2 v4_0 v4_1 v6_0 v6_1)) (fun v6_2 v4_0 v4_1 v6_0 v6_1 => K (.exit 0) (f47s6 v6_2 v4_0 v4_1 v6_0 v6_1)) :=
 viaSeqS (fun k => impl_RenameMatrix.Z12 N v6_2 v1 v7 v2_0 v2_1 v2_2 v4_0 v4_1 v6_0 v6_1 k (fun v6_2 v4_0 v4_1 v6_0 v6_1 => K (.exit 0) (f47s6 v6_2 v4_0 v4_1 v6_0 v6_1))) (by kernel_rfl) (f47t12 N (K := seqK (fun σ => f47i N (f47c 407) f47p13 σ (joinK (some f47l3) K)) (joinK (some f47l3) K)) ..) (fx10 fun v6_2 v1 v7 v2_0 v2_1 v2_2 v4_0 v4_1 v6_0 v6_1 => f47t13 N v6_2 v1 v7 v2_0 v2_1 v2_2 v4_0 v4_1 v6_0 v6_1 K) (by kernel_rfl)
noncomputable def f47p10 : Plan := .mk none (some f47l3) f47p11 .n
noncomputable abbrev f47w10 {ρ : Type} (N M : Nat) (σ : St) (K : KT ρ) : Option ρ := loopC (fun σ K => f47i N (f47c 151) f47p11 σ K) f47l3 M σ K
theorem f47t10L {ρ : Type} (N : Nat) (K : KT ρ) : ∀ (M : Nat) (v6_2 v1 : LI) (v7 v2_0 v2_1 : Int) (v2_2 : LI) (v4_0 v4_1 v6_0 v6_1 : Int), f47w10 N M (f47s3 v6_2 v1 v7 v2_0 v2_1 v2_2 v4_0 v4_1 v6_0 v6_1) K =
  impl_RenameMatrix.Z10L N (fun v6_2 v4_0 v4_1 v6_0 v6_1 => K (.exit 0) (f47s6 v6_2 v4_0 v4_1 v6_0 v6_1)) M v6_2 v1 v7 v2_0 v2_1 v2_2 v4_0 v4_1 v6_0 v6_1
  | 0, _, _, _, _, _, _, _, _, _, _ => rfl
  | M + 1, v6_2, v1, v7, v2_0, v2_1, v2_2, v4_0, v4_1, v6_0, v6_1 => viaRoundS (fun k => impl_RenameMatrix.Z11 N v6_2 v1 v7 v2_0 v2_1 v2_2 v4_0 v4_1 v6_0 v6_1 k (fun v6_2 v4_0 v4_1 v6_0 v6_1 => K (.exit 0) (f47s6 v6_2 v4_0 v4_1 v6_0 v6_1))) (f47t11 N (K := seqK (fun σ => f47w10 N M σ K) K) ..) (fx10 fun v6_2 v1 v7 v2_0 v2_1 v2_2 v4_0 v4_1 v6_0 v6_1 => f47t10L N K M v6_2 v1 v7 v2_0 v2_1 v2_2 v4_0 v4_1 v6_0 v6_1) (by kernel_rfl)
theorem f47t10 N v6_2 v1 v7 v2_0 v2_1 v2_2 v4_0 v4_1 v6_0 v6_1 (K : KT ρ) : f47i N (f47c 87) f47p10 (f47s3 v6_2 v1 v7 v2_0 v2_1 v2_2 v4_0 v4_1 v6_0 v6_1) (joinK (some f47l6) K) =
  impl_RenameMatrix.Z10 N v6_2 v1 v7 v2_0 v2_1 v2_2 v4_0 v4_1 v6_0 v6_1 (fun v6_2 v4_0 v4_1 v6_0 v6_1 => K (.exit 0) (f47s6 v6_2 v4_0 v4_1 v6_0 v6_1)) :=
 viaLoopS (by kernel_rfl) (f47t10L N (joinK (some f47l6) K) N v6_2 v1 v7 v2_0 v2_1 v2_2 v4_0 v4_1 v6_0 v6_1) (by kernel_rfl)
noncomputable def f47p9 : Plan := .mk (some f47l6) none f47p10 .n
theorem f47t9 N v6_2 v1 v7 v2_0 v2_1 v2_2 v4_0 v4_1 v6_0 v6_1 (K : KT ρ) : f47i N (f47c 55) f47p9 (f47s3 v6_2 v1 v7 v2_0 v2_1 v2_2 v4_0 v4_1 v6_0 v6_1) (joinK (some f47l6) K) =
  impl_RenameMatrix.Z9 N v6_2 v1 v7 v2_0 v2_1 v2_2 v4_0 v4_1 v6_0 v6_1 (fun v6_2 v4_0 v4_1 v6_0 v6_1 => K .nrm (f47s6 v6_2 v4_0 v4_1 v6_0 v6_1)) :=
 viaBlockS (by kernel_rfl) (f47t10 N (K := blockK 0 (joinK (some f47l6) K)) ..) (by kernel_rfl)
noncomputable def f47p7 : Plan := .mk (some f47l3) none .n f47p9
theorem f47t7 N v6_2 v1 v2_0 v2_1 v2_2 v4_0 v4_1 v6_0 v6_1 (K : KT ρ) : f47i N (f47c 23) f47p7 (f47s2 v6_2 v1 v2_0 v2_1 v2_2 v4_0 v4_1 v6_0 v6_1) (joinK (some f47l6) K) =
  impl_RenameMatrix.Z7 N v6_2 v1 v2_0 v2_1 v2_2 v4_0 v4_1 v6_0 v6_1 (fun v6_2 v4_0 v4_1 v6_0 v6_1 => K .nrm (f47s6 v6_2 v4_0 v4_1 v6_0 v6_1)) :=
 viaSeqS (fun k => impl_RenameMatrix.Z8 N v6_2 v1 v2_0 v2_1 v2_2 v4_0 v4_1 v6_0 v6_1 k) (by kernel_rfl) (f47t8 N (K := seqK (fun σ => f47i N (f47c 55) f47p9 σ (joinK (some f47l6) K)) (joinK (some f47l6) K)) ..) (fx10 fun v6_2 v1 v7 v2_0 v2_1 v2_2 v4_0 v4_1 v6_0 v6_1 => f47t9 N v6_2 v1 v7 v2_0 v2_1 v2_2 v4_0 v4_1 v6_0 v6_1 K) (by kernel_rfl)
theorem f47t25 N v6_2 v4_0 v4_1 v6_0 v6_1 (K : KT ρ) : f47i N (f47c 31) .n (f47s6 v6_2 v4_0 v4_1 v6_0 v6_1) (joinK (some f47lE) K) =
  impl_RenameMatrix.Z25 N v6_2 v4_0 v4_1 v6_0 v6_1 (fun v4_2 v5 v4_0 v4_1 => K .ret (f47s7 v4_2 v5 v4_0 v4_1)) := by kernel_rfl
noncomputable def f47p6 : Plan := .mk (some f47l6) none f47p7 .n
theorem f47t6 N v6_2 v1 v2_0 v2_1 v2_2 v4_0 v4_1 v6_0 v6_1 (K : KT ρ) : f47i N (f47c 15) f47p6 (f47s2 v6_2 v1 v2_0 v2_1 v2_2 v4_0 v4_1 v6_0 v6_1) (joinK (some f47lE) K) =
  impl_RenameMatrix.Z6 N v6_2 v1 v2_0 v2_1 v2_2 v4_0 v4_1 v6_0 v6_1 (fun v4_2 v5 v4_0 v4_1 => K .ret (f47s7 v4_2 v5 v4_0 v4_1)) :=
 viaSeqS (fun k => impl_RenameMatrix.Z7 N v6_2 v1 v2_0 v2_1 v2_2 v4_0 v4_1 v6_0 v6_1 k) (by kernel_rfl) (f47t7 N (K := seqK (fun σ => f47i N (f47c 31) .n σ (joinK (some f47lE) K)) (joinK (some f47lE) K)) ..) (fx5 fun v6_2 v4_0 v4_1 v6_0 v6_1 => f47t25 N v6_2 v4_0 v4_1 v6_0 v6_1 K) (by kernel_rfl)
noncomputable def f47p4 : Plan := .mk (some f47l2) none .n f47p6
theorem f47t4 N v1 v2_0 v2_1 v2_2 v4_0 v4_1 (K : KT ρ) : f47i N (f47c 7) f47p4 (f47s1 v1 v2_0 v2_1 v2_2 v4_0 v4_1) (joinK (some f47lE) K) =
  impl_RenameMatrix.Z4 N v1 v2_0 v2_1 v2_2 v4_0 v4_1 (fun v4_2 v5 v4_0 v4_1 => K .ret (f47s7 v4_2 v5 v4_0 v4_1)) :=
 viaSeqS (fun k => impl_RenameMatrix.Z5 N v1 v2_0 v2_1 v2_2 v4_0 v4_1 k) (by kernel_rfl) (f47t5 N (K := seqK (fun σ => f47i N (f47c 15) f47p6 σ (joinK (some f47lE) K)) (joinK (some f47lE) K)) ..) (fx9 fun v6_2 v1 v2_0 v2_1 v2_2 v4_0 v4_1 v6_0 v6_1 => f47t6 N v6_2 v1 v2_0 v2_1 v2_2 v4_0 v4_1 v6_0 v6_1 K) (by kernel_rfl)
noncomputable def f47p2 : Plan := .mk (some f47l1) none .n f47p4
theorem f47t2 N v1 v2_0 v2_1 v2_2 v4_0 v4_1 (K : KT ρ) : f47i N (f47c 3) f47p2 (f47s1 v1 v2_0 v2_1 v2_2 v4_0 v4_1) (joinK (some f47lE) K) =
  impl_RenameMatrix.Z2 N v1 v2_0 v2_1 v2_2 v4_0 v4_1 (fun v4_2 v5 v4_0 v4_1 => K .ret (f47s7 v4_2 v5 v4_0 v4_1)) :=
 viaSeqS (fun k => impl_RenameMatrix.Z3 N v1 v2_0 v2_1 v2_2 v4_0 v4_1 k (fun v4_2 v5 v4_0 v4_1 => K .ret (f47s7 v4_2 v5 v4_0 v4_1))) (by kernel_rfl) (f47t3 N (K := seqK (fun σ => f47i N (f47c 7) f47p4 σ (joinK (some f47lE) K)) (joinK (some f47lE) K)) ..) (fx6 fun v1 v2_0 v2_1 v2_2 v4_0 v4_1 => f47t4 N v1 v2_0 v2_1 v2_2 v4_0 v4_1 K) (by kernel_rfl)
noncomputable def f47p0 : Plan := .mk (some f47l1) none .n f47p2
theorem f47t0 N v0 v1 (K : KT ρ) : f47i N (f47c 1) f47p0 (f47s0 v0 v1) (joinK (some f47lE) K) =
  impl_RenameMatrix.Z0 N v0 v1 (fun v4_2 v5 v4_0 v4_1 => K .ret (f47s7 v4_2 v5 v4_0 v4_1)) :=
 viaSeqS (fun k => impl_RenameMatrix.Z1 N v0 v1 k) (by kernel_rfl) (f47t1 N (K := seqK (fun σ => f47i N (f47c 3) f47p2 σ (joinK (some f47lE) K)) (joinK (some f47lE) K)) ..) (fx6 fun v1 v2_0 v2_1 v2_2 v4_0 v4_1 => f47t2 N v1 v2_0 v2_1 v2_2 v4_0 v4_1 K) (by kernel_rfl)
theorem f47m (N : Nat) (v0 : MT) (v1 : LI) : f47i N (f47c 1) f47p0 (f47s0 v0 v1) (joinK (some f47lE) (finK tab f47sig Try.f47.results.toList)) = impl_RenameMatrix.Z0 N v0 v1 (fun v4_2 v5 v4_0 v4_1 => some ((), ((v4_0, (v4_1, v4_2)), (v5, ())))) :=
  (f47t0 N v0 v1 (finK tab f47sig Try.f47.results.toList)).trans (by kernel_rfl)
theorem f47ok (h : impl_RenameMatrix.Spec) : EntryOk Try.prog 47 e47 :=
  entry_of_code (sig := f47sig) (c := (f47c 1)) (pl := f47p0) (je := (some f47lE)) (B := f47B) Try.func47 (by kernel_rfl) (by kernel_rfl) (by kernel_rfl) tabOk f47GOk (by kernel_rfl) (by kernel_rfl) (by kernel_rfl) (by kernel_rfl) fun X hb hp => by
    obtain ⟨v0, v1, _⟩ := X
    obtain ⟨N, h⟩ := h v0 v1 hb.1 hb.2.1
    exact ⟨N, (f47m N v0 v1).trans (h N (Nat.le_refl N))⟩
theorem e47ok : EntryOk Try.prog 47 e47 := f47ok impl_RenameMatrix.ok
end Go.Fw
namespace Go.Fw
variable {ρ : Type}
open Go.Proofs
noncomputable def f132sig : Sig := ⟨[⟨.int .i64, false, false⟩], [⟨.bool, false, false⟩]⟩
noncomputable def e132 : Entry := ⟨f132sig, none, fun X => ((), ((cmp_isNaN_int.g X.1), ()))⟩
noncomputable def f132G : Gm := emptyG
theorem f132GOk : GOk Try.prog f132G := GOk.nil
noncomputable def f132lE : Clean := ⟨[], [], [], [], []⟩
noncomputable def f132s0 (v0 : Int) : St := initSt f132sig.ps (v0, ())
noncomputable def f132s1 (v2 : Bool) : St := stOf [(2, xB v2)] [] []
noncomputable def f132l1 : Clean := ⟨[2], [], [], [], []⟩
noncomputable def f132B : Nat → Option Clean := lookL [(1000000, f132l1)]
noncomputable abbrev f132i {ρ : Type} (N : Nat) (c : Code) (p : Plan) (σ : St) (K : KT ρ) : Option ρ := iCode f132G tab f132B N c p σ K
noncomputable def f132c (n : Nat) : Code := codeN 99 (bodyOf Try.f132) n
theorem f132t0 N v0 (K : KT ρ) : f132i N (f132c 1) .n (f132s0 v0) (joinK (some f132lE) K) =
  cmp_isNaN_int.Z0 N v0 (fun v2 => K .ret (f132s1 v2)) := by kernel_rfl
theorem f132m (N : Nat) (v0 : Int) : f132i N (f132c 1) .n (f132s0 v0) (joinK (some f132lE) (finK tab f132sig Try.f132.results.toList)) = cmp_isNaN_int.Z0 N v0 (fun v2 => some ((), (v2, ()))) :=
  (f132t0 N v0 (finK tab f132sig Try.f132.results.toList)).trans (by kernel_rfl)
theorem f132ok (h : cmp_isNaN_int.Spec) : EntryOk Try.prog 132 e132 :=
  entry_of_code (sig := f132sig) (c := (f132c 1)) (pl := .n) (je := (some f132lE)) (B := f132B) Try.func132 (by kernel_rfl) (by kernel_rfl) (by kernel_rfl) tabOk f132GOk (by kernel_rfl) (by kernel_rfl) (by kernel_rfl) (by kernel_rfl) fun X hb hp => by
    obtain ⟨v0, _⟩ := X
    obtain ⟨N, h⟩ := h v0
    exact ⟨N, (f132m N v0).trans (h N (Nat.le_refl N))⟩
theorem e132ok : EntryOk Try.prog 132 e132 := f132ok cmp_isNaN_int.ok
end Go.Fw
namespace Go.Fw
variable {ρ : Type}
open Go.Proofs
noncomputable def f114sig : Sig := ⟨[⟨.int .i64, false, false⟩, ⟨.int .i64, false, false⟩], [⟨.int .i64, false, false⟩]⟩
noncomputable def e114 : Entry := ⟨f114sig, none, fun X => ((), ((cmp_Compare_int.g X.1 X.2.1), ()))⟩
noncomputable def f114G : Gm := addG emptyG 132 e132
theorem f114GOk : GOk Try.prog f114G := (GOk.nil).add e132ok (by kernel_rfl)
noncomputable def f114lE : Clean := ⟨[], [], [], [], []⟩
noncomputable def f114s0 (v0 v1 : Int) : St := initSt f114sig.ps (v0, (v1, ()))
noncomputable def f114s1 (v4 : Int) : St := stOf [(4, xi v4)] [] []
noncomputable def f114l1 : Clean := ⟨[4], [], [], [], []⟩
noncomputable def f114B : Nat → Option Clean := lookL [(1000000, f114l1)]
noncomputable abbrev f114i {ρ : Type} (N : Nat) (c : Code) (p : Plan) (σ : St) (K : KT ρ) : Option ρ := iCode f114G tab f114B N c p σ K
noncomputable def f114c (n : Nat) : Code := codeN 99 (bodyOf Try.f114) n
theorem f114t0 N v0 v1 (K : KT ρ) : f114i N (f114c 1) .n (f114s0 v0 v1) (joinK (some f114lE) K) =
  cmp_Compare_int.Z0 N v0 v1 (fun v4 => K .ret (f114s1 v4)) := by kernel_rfl
theorem f114m (N : Nat) (v0 v1 : Int) : f114i N (f114c 1) .n (f114s0 v0 v1) (joinK (some f114lE) (finK tab f114sig Try.f114.results.toList)) = cmp_Compare_int.Z0 N v0 v1 (fun v4 => some ((), (v4, ()))) :=
  (f114t0 N v0 v1 (finK tab f114sig Try.f114.results.toList)).trans (by kernel_rfl)
theorem f114ok (h : cmp_Compare_int.Spec) : EntryOk Try.prog 114 e114 :=
  entry_of_code (sig := f114sig) (c := (f114c 1)) (pl := .n) (je := (some f114lE)) (B := f114B) Try.func114 (by kernel_rfl) (by kernel_rfl) (by kernel_rfl) tabOk f114GOk (by kernel_rfl) (by kernel_rfl) (by kernel_rfl) (by kernel_rfl) fun X hb hp => by
    obtain ⟨v0, v1, _⟩ := X
    obtain ⟨N, h⟩ := h v0 v1
    exact ⟨N, (f114m N v0 v1).trans (h N (Nat.le_refl N))⟩
theorem e114ok : EntryOk Try.prog 114 e114 := f114ok cmp_Compare_int.ok
end Go.Fw
namespace Go.Fw
variable {ρ : Type}
open Go.Proofs
noncomputable def f87sig : Sig := ⟨[⟨.sl 3 (.int .i64), false, false⟩, ⟨.sl 3 (.int .i64), false, false⟩], [⟨.int .i64, false, false⟩]⟩
noncomputable def e87 : Entry := ⟨f87sig, none, fun X => ((), ((slices_Compare_int_int.g X.1 X.2.1), ()))⟩
noncomputable def f87G : Gm := addG emptyG 114 e114
theorem f87GOk : GOk Try.prog f87G := (GOk.nil).add e114ok (by kernel_rfl)
noncomputable def f87lE : Clean := ⟨[], [], [], [], []⟩
noncomputable def f87s0 (v0 v1 : LI) : St := initSt f87sig.ps (v0, (v1, ()))
noncomputable def f87s1 (v0 v1 : LI) : St := stOf [(0, .c (.sn 3 tI v0 none)), (1, .c (.sn 3 tI v1 none))] [] []
noncomputable def f87l1 : Clean := ⟨[0, 1], [], [], [], []⟩
noncomputable def f87s2 (v0 v1 v9 : LI) (v10 v11 : Int) : St := stOf [(0, .c (.sn 3 tI v0 none)), (1, .c (.sn 3 tI v1 none)), (9, .c (.sn 3 tI v9 none)), (10, xi v10), (11, xi v11)] [] []
noncomputable def f87l2 : Clean := ⟨[0, 1, 9, 10, 11], [], [], [], []⟩
noncomputable def f87s3 (v4 : Int) : St := stOf [(4, xi v4)] [] []
noncomputable def f87l3 : Clean := ⟨[4], [], [], [], []⟩
noncomputable def f87B : Nat → Option Clean := lookL [(0, f87l1), (1000000, f87l3)]
noncomputable abbrev f87i {ρ : Type} (N : Nat) (c : Code) (p : Plan) (σ : St) (K : KT ρ) : Option ρ := iCode f87G tab f87B N c p σ K
noncomputable def f87c (n : Nat) : Code := codeN 99 (bodyOf Try.f87) n
theorem f87t1 N v0 v1 (K : KT ρ) : f87i N (f87c 2) .n (f87s0 v0 v1) (joinK (some f87l1) K) =
  slices_Compare_int_int.Z1 N v0 v1 (fun v0 v1 => K .nrm (f87s1 v0 v1)) := by kernel_rfl
theorem f87t4 N v0 v1 (K : KT ρ) : f87i N (f87c 9) .n (f87s1 v0 v1) (joinK (some f87l2) K) =
  slices_Compare_int_int.Z4 N v0 v1 (fun v0 v1 v9 v10 v11 => K .nrm (f87s2 v0 v1 v9 v10 v11)) := by kernel_rfl
theorem f87t7 N v0 v1 v9 v10 v11 (K : KT ρ) : f87i N (f87c 37) .n (f87s2 v0 v1 v9 v10 v11) (joinK (some f87l2) K) =
  slices_Compare_int_int.Z7 N v0 v1 v9 v10 v11 (fun v0 v1 v9 v10 v11 => K .nrm (f87s2 v0 v1 v9 v10 v11)) (fun v0 v1 => K (.exit 0) (f87s1 v0 v1)) (fun v4 => K .ret (f87s3 v4)) := by kernel_rfl
noncomputable def f87p6 : Plan := .mk none (some f87l2) .n .n
noncomputable abbrev f87w6 {ρ : Type} (N M : Nat) (σ : St) (K : KT ρ) : Option ρ := loopC (fun σ K => f87i N (f87c 37) .n σ K) f87l2 M σ K
theorem f87t6L {ρ : Type} (N : Nat) (K : KT ρ) : ∀ (M : Nat) (v0 v1 v9 : LI) (v10 v11 : Int), f87w6 N M (f87s2 v0 v1 v9 v10 v11) K =
  slices_Compare_int_int.Z6L N (fun v0 v1 => K (.exit 0) (f87s1 v0 v1)) (fun v4 => K .ret (f87s3 v4)) M v0 v1 v9 v10 v11
  | 0, _, _, _, _, _ => rfl
  | M + 1, v0, v1, v9, v10, v11 => viaRoundS (fun k => slices_Compare_int_int.Z7 N v0 v1 v9 v10 v11 k (fun v0 v1 => K (.exit 0) (f87s1 v0 v1)) (fun v4 => K .ret (f87s3 v4))) (f87t7 N (K := seqK (fun σ => f87w6 N M σ K) K) ..) (fx5 fun v0 v1 v9 v10 v11 => f87t6L N K M v0 v1 v9 v10 v11) (by kernel_rfl)
theorem f87t6 N v0 v1 v9 v10 v11 (K : KT ρ) : f87i N (f87c 21) f87p6 (f87s2 v0 v1 v9 v10 v11) (joinK (some f87l1) K) =
  slices_Compare_int_int.Z6 N v0 v1 v9 v10 v11 (fun v0 v1 => K (.exit 0) (f87s1 v0 v1)) (fun v4 => K .ret (f87s3 v4)) :=
 viaLoopS (by kernel_rfl) (f87t6L N (joinK (some f87l1) K) N v0 v1 v9 v10 v11) (by kernel_rfl)
noncomputable def f87p5 : Plan := .mk (some f87l1) none f87p6 .n
theorem f87t5 N v0 v1 v9 v10 v11 (K : KT ρ) : f87i N (f87c 13) f87p5 (f87s2 v0 v1 v9 v10 v11) (joinK (some f87l1) K) =
  slices_Compare_int_int.Z5 N v0 v1 v9 v10 v11 (fun v0 v1 => K .nrm (f87s1 v0 v1)) (fun v4 => K .ret (f87s3 v4)) :=
 viaBlockS (by kernel_rfl) (f87t6 N (K := blockK 0 (joinK (some f87l1) K)) ..) (by kernel_rfl)
noncomputable def f87p3 : Plan := .mk (some f87l2) none .n f87p5
theorem f87t3 N v0 v1 (K : KT ρ) : f87i N (f87c 5) f87p3 (f87s1 v0 v1) (joinK (some f87l1) K) =
  slices_Compare_int_int.Z3 N v0 v1 (fun v0 v1 => K .nrm (f87s1 v0 v1)) (fun v4 => K .ret (f87s3 v4)) :=
 viaSeqS (fun k => slices_Compare_int_int.Z4 N v0 v1 k) (by kernel_rfl) (f87t4 N (K := seqK (fun σ => f87i N (f87c 13) f87p5 σ (joinK (some f87l1) K)) (joinK (some f87l1) K)) ..) (fx5 fun v0 v1 v9 v10 v11 => f87t5 N v0 v1 v9 v10 v11 K) (by kernel_rfl)
theorem f87t8 N v0 v1 (K : KT ρ) : f87i N (f87c 7) .n (f87s1 v0 v1) (joinK (some f87lE) K) =
  slices_Compare_int_int.Z8 N v0 v1 (fun v4 => K .ret (f87s3 v4)) := by kernel_rfl
noncomputable def f87p2 : Plan := .mk (some f87l1) none f87p3 .n
theorem f87t2 N v0 v1 (K : KT ρ) : f87i N (f87c 3) f87p2 (f87s1 v0 v1) (joinK (some f87lE) K) =
  slices_Compare_int_int.Z2 N v0 v1 (fun v4 => K .ret (f87s3 v4)) :=
 viaSeqS (fun k => slices_Compare_int_int.Z3 N v0 v1 k (fun v4 => K .ret (f87s3 v4))) (by kernel_rfl) (f87t3 N (K := seqK (fun σ => f87i N (f87c 7) .n σ (joinK (some f87lE) K)) (joinK (some f87lE) K)) ..) (fx2 fun v0 v1 => f87t8 N v0 v1 K) (by kernel_rfl)
noncomputable def f87p0 : Plan := .mk (some f87l1) none .n f87p2
theorem f87t0 N v0 v1 (K : KT ρ) : f87i N (f87c 1) f87p0 (f87s0 v0 v1) (joinK (some f87lE) K) =
  slices_Compare_int_int.Z0 N v0 v1 (fun v4 => K .ret (f87s3 v4)) :=
 viaSeqS (fun k => slices_Compare_int_int.Z1 N v0 v1 k) (by kernel_rfl) (f87t1 N (K := seqK (fun σ => f87i N (f87c 3) f87p2 σ (joinK (some f87lE) K)) (joinK (some f87lE) K)) ..) (fx2 fun v0 v1 => f87t2 N v0 v1 K) (by kernel_rfl)
theorem f87m (N : Nat) (v0 v1 : LI) : f87i N (f87c 1) f87p0 (f87s0 v0 v1) (joinK (some f87lE) (finK tab f87sig Try.f87.results.toList)) = slices_Compare_int_int.Z0 N v0 v1 (fun v4 => some ((), (v4, ()))) :=
  (f87t0 N v0 v1 (finK tab f87sig Try.f87.results.toList)).trans (by kernel_rfl)
theorem f87ok (h : slices_Compare_int_int.Spec) : EntryOk Try.prog 87 e87 :=
  entry_of_code (sig := f87sig) (c := (f87c 1)) (pl := f87p0) (je := (some f87lE)) (B := f87B) Try.func87 (by kernel_rfl) (by kernel_rfl) (by kernel_rfl) tabOk f87GOk (by kernel_rfl) (by kernel_rfl) (by kernel_rfl) (by kernel_rfl) fun X hb hp => by
    obtain ⟨v0, v1, _⟩ := X
    obtain ⟨N, h⟩ := h v0 v1 hb.1 hb.2.1
    exact ⟨N, (f87m N v0 v1).trans (h N (Nat.le_refl N))⟩
theorem e87ok : EntryOk Try.prog 87 e87 := f87ok slices_Compare_int_int.ok
end Go.Fw
namespace Go.Fw
variable {ρ : Type}
open Go.Proofs
noncomputable def f43sig : Sig := ⟨[⟨.pair (.int .i64) (.pair (.int .i64) (.sl 3 (.int .i64))), true, false⟩], [⟨.pair (.int .i64) (.pair (.int .i64) (.sl 3 (.int .i64))), true, false⟩, ⟨.bool, false, false⟩]⟩
noncomputable def e43 : Entry := ⟨f43sig, none, fun X => ((), ((impl_CanonicalMatrix.g X.1).1, ((impl_CanonicalMatrix.g X.1).2, ())))⟩
noncomputable def f43G : Gm := addG (addG (addG (addG emptyG 31 e31) 47 e47) 86 e86) 87 e87
theorem f43GOk : GOk Try.prog f43G := ((((GOk.nil).add e31ok (by kernel_rfl)).add e47ok (by kernel_rfl)).add e86ok (by kernel_rfl)).add e87ok (by kernel_rfl)
noncomputable def f43lE : Clean := ⟨[], [], [], [], []⟩
noncomputable def f43s0 (v0 : MT) : St := initSt f43sig.ps (v0, ())
noncomputable def f43s1 (v1_0 v1_1 : Int) (v1_2 : LI) (v2_0 v2_1 : Int) : St := stOf [(1, xb 1), (2, xb 2)] [(1, (30, [yi v1_0, yi v1_1, .sn 3 tI v1_2 none])), (2, (30, [yi v2_0, yi v2_1, .nil]))] []
noncomputable def f43l1 : Clean := ⟨[1, 2], [1, 2], [], [], []⟩
noncomputable def f43s2 (v1_0 v1_1 : Int) (v1_2 : LI) (v2_0 v2_1 v4_0 v4_1 : Int) (v4_2 : LI) : St := stOf [(1, xb 1), (2, xb 2), (4, xb 4)] [(1, (30, [yi v1_0, yi v1_1, .sn 3 tI v1_2 none])), (2, (30, [yi v2_0, yi v2_1, .nil])), (4, (30, [yi v4_0, yi v4_1, .sn 3 tI v4_2 none]))] []
noncomputable def f43l2 : Clean := ⟨[1, 2, 4], [1, 2, 4], [], [], []⟩
noncomputable def f43s3 (v23 : LL) (v24 v25 v1_0 v1_1 : Int) (v1_2 : LI) (v2_0 v2_1 v4_0 v4_1 : Int) (v4_2 : LI) : St := stOf [(1, xb 1), (2, xb 2), (4, xb 4), (23, xo 1001472), (24, xi v24), (25, xi v25)] [(1, (30, [yi v1_0, yi v1_1, .sn 3 tI v1_2 none])), (2, (30, [yi v2_0, yi v2_1, .nil])), (4, (30, [yi v4_0, yi v4_1, .sn 3 tI v4_2 none]))] [(1001472, (⟨22, .sl 3 tI, v23, true, false⟩ : Row))]
noncomputable def f43l3 : Clean := ⟨[1, 2, 4, 23, 24, 25], [1, 2, 4], [], [], [(⟨false, 23, 0⟩, 1001472)]⟩
noncomputable def f43s4 (v23 : LL) (v4_2 : LI) (v24 v25 v1_0 v1_1 : Int) (v1_2 : LI) (v2_0 v2_1 v4_0 v4_1 : Int) : St := stOf [(1, xb 1), (2, xb 2), (4, xb 4), (23, xo 1001472), (24, xi v24), (25, xi v25)] [(1, (30, [yi v1_0, yi v1_1, .sn 3 tI v1_2 none])), (2, (30, [yi v2_0, yi v2_1, .nil])), (4, (30, [yi v4_0, yi v4_1, .own 20000258]))] [(1001472, (⟨22, .sl 3 tI, v23, true, false⟩ : Row)), (20000258, (⟨3, .int .i64, v4_2, true, false⟩ : Row))]
noncomputable def f43l4 : Clean := ⟨[1, 2, 4, 23, 24, 25], [1, 2, 4], [], [], [(⟨false, 23, 0⟩, 1001472), (⟨true, 4, 2⟩, 20000258)]⟩
noncomputable def f43s5 (v4_2 : LI) (v2_0 v2_1 v4_0 v4_1 : Int) : St := stOf [(2, xb 2), (4, xb 4)] [(2, (30, [yi v2_0, yi v2_1, .nil])), (4, (30, [yi v4_0, yi v4_1, .own 20000258]))] [(20000258, (⟨3, .int .i64, v4_2, true, false⟩ : Row))]
noncomputable def f43l5 : Clean := ⟨[2, 4], [2, 4], [], [], [(⟨true, 4, 2⟩, 20000258)]⟩
noncomputable def f43s6 (v2_2 : LI) (v3 : Bool) (v2_0 v2_1 : Int) : St := stOf [(2, xb 2), (3, xB v3)] [(2, (30, [yi v2_0, yi v2_1, .own 20000130]))] [(20000130, (⟨3, .int .i64, v2_2, true, false⟩ : Row))]
noncomputable def f43l6 : Clean := ⟨[2, 3], [2], [⟨⟨true, 2, 2⟩, 30000000, 3, .int .i64, true⟩], [], [(⟨true, 2, 2⟩, 20000130)]⟩
noncomputable def f43B : Nat → Option Clean := lookL [(0, f43l5), (1000000, f43l6)]
noncomputable abbrev f43i {ρ : Type} (N : Nat) (c : Code) (p : Plan) (σ : St) (K : KT ρ) : Option ρ := iCode f43G tab f43B N c p σ K
noncomputable def f43c (n : Nat) : Code := codeN 99 (bodyOf Try.f43) n
theorem f43t1 N v0 (K : KT ρ) : f43i N (f43c 2) .n (f43s0 v0) (joinK (some f43l1) K) =
  impl_CanonicalMatrix.Z1 N v0 (fun v1_0 v1_1 v1_2 v2_0 v2_1 => K .nrm (f43s1 v1_0 v1_1 v1_2 v2_0 v2_1)) := by kernel_rfl
theorem f43t3 N v1_0 v1_1 v1_2 v2_0 v2_1 (K : KT ρ) : f43i N (f43c 5) .n (f43s1 v1_0 v1_1 v1_2 v2_0 v2_1) (joinK (some f43l1) K) =
  impl_CanonicalMatrix.Z3 N v1_0 v1_1 v1_2 v2_0 v2_1 (fun v1_0 v1_1 v1_2 v2_0 v2_1 => K .nrm (f43s1 v1_0 v1_1 v1_2 v2_0 v2_1)) (fun v2_2 v3 v2_0 v2_1 => K .ret (f43s6 v2_2 v3 v2_0 v2_1)) := by kernel_rfl
theorem f43t5 N v1_0 v1_1 v1_2 v2_0 v2_1 (K : KT ρ) : f43i N (f43c 11) .n (f43s1 v1_0 v1_1 v1_2 v2_0 v2_1) (joinK (some f43l2) K) =
  impl_CanonicalMatrix.Z5 N v1_0 v1_1 v1_2 v2_0 v2_1 (fun v1_0 v1_1 v1_2 v2_0 v2_1 v4_0 v4_1 v4_2 => K .nrm (f43s2 v1_0 v1_1 v1_2 v2_0 v2_1 v4_0 v4_1 v4_2)) := by kernel_rfl
theorem f43t8 N v1_0 v1_1 v1_2 v2_0 v2_1 v4_0 v4_1 v4_2 (K : KT ρ) : f43i N (f43c 39) .n (f43s2 v1_0 v1_1 v1_2 v2_0 v2_1 v4_0 v4_1 v4_2) (joinK (some f43l3) K) =
  impl_CanonicalMatrix.Z8 N v1_0 v1_1 v1_2 v2_0 v2_1 v4_0 v4_1 v4_2 (fun v23 v24 v25 v1_0 v1_1 v1_2 v2_0 v2_1 v4_0 v4_1 v4_2 => K .nrm (f43s3 v23 v24 v25 v1_0 v1_1 v1_2 v2_0 v2_1 v4_0 v4_1 v4_2)) := by kernel_rfl
theorem f43t11 N v23 v4_2 v24 v25 v1_0 v1_1 v1_2 v2_0 v2_1 v4_0 v4_1 (K : KT ρ) : f43i N (f43c 151) .n (f43s4 v23 v4_2 v24 v25 v1_0 v1_1 v1_2 v2_0 v2_1 v4_0 v4_1) (joinK (some f43l4) K) =
  impl_CanonicalMatrix.Z11 N v23 v4_2 v24 v25 v1_0 v1_1 v1_2 v2_0 v2_1 v4_0 v4_1 (fun v23 v4_2 v24 v25 v1_0 v1_1 v1_2 v2_0 v2_1 v4_0 v4_1 => K .nrm (f43s4 v23 v4_2 v24 v25 v1_0 v1_1 v1_2 v2_0 v2_1 v4_0 v4_1)) (fun v4_2 v2_0 v2_1 v4_0 v4_1 => K (.exit 0) (f43s5 v4_2 v2_0 v2_1 v4_0 v4_1)) := by kernel_rfl
theorem f43t12 N v23 v24 v25 v1_0 v1_1 v1_2 v2_0 v2_1 v4_0 v4_1 v4_2 (K : KT ρ) : f43i N (f43c 151) .n (f43s3 v23 v24 v25 v1_0 v1_1 v1_2 v2_0 v2_1 v4_0 v4_1 v4_2) (joinK (some f43l4) K) =
  impl_CanonicalMatrix.Z12 N v23 v24 v25 v1_0 v1_1 v1_2 v2_0 v2_1 v4_0 v4_1 v4_2 (fun v23 v4_2 v24 v25 v1_0 v1_1 v1_2 v2_0 v2_1 v4_0 v4_1 => K .nrm (f43s4 v23 v4_2 v24 v25 v1_0 v1_1 v1_2 v2_0 v2_1 v4_0 v4_1)) (fun v4_2 v2_0 v2_1 v4_0 v4_1 => K (.exit 0) (f43s5 v4_2 v2_0 v2_1 v4_0 v4_1)) := by kernel_rfl
noncomputable def f43p10 : Plan := .mk (some f43l3) (some f43l4) .n .n
noncomputable abbrev f43w10 {ρ : Type} (N M : Nat) (σ : St) (K : KT ρ) : Option ρ := loopC (fun σ K => f43i N (f43c 151) .n σ K) f43l4 M σ K
theorem f43t10L {ρ : Type} (N : Nat) (K : KT ρ) : ∀ (M : Nat) (v23 : LL) (v4_2 : LI) (v24 v25 v1_0 v1_1 : Int) (v1_2 : LI) (v2_0 v2_1 v4_0 v4_1 : Int), f43w10 N M (f43s4 v23 v4_2 v24 v25 v1_0 v1_1 v1_2 v2_0 v2_1 v4_0 v4_1) K =
  impl_CanonicalMatrix.Z10L N (fun v4_2 v2_0 v2_1 v4_0 v4_1 => K (.exit 0) (f43s5 v4_2 v2_0 v2_1 v4_0 v4_1)) M v23 v4_2 v24 v25 v1_0 v1_1 v1_2 v2_0 v2_1 v4_0 v4_1
  | 0, _, _, _, _, _, _, _, _, _, _, _ => rfl
  | M + 1, v23, v4_2, v24, v25, v1_0, v1_1, v1_2, v2_0, v2_1, v4_0, v4_1 => viaRoundS (fun k => impl_CanonicalMatrix.Z11 N v23 v4_2 v24 v25 v1_0 v1_1 v1_2 v2_0 v2_1 v4_0 v4_1 k (fun v4_2 v2_0 v2_1 v4_0 v4_1 => K (.exit 0) (f43s5 v4_2 v2_0 v2_1 v4_0 v4_1))) (f43t11 N (K := seqK (fun σ => f43w10 N M σ K) K) ..) (fx11 fun v23 v4_2 v24 v25 v1_0 v1_1 v1_2 v2_0 v2_1 v4_0 v4_1 => f43t10L N K M v23 v4_2 v24 v25 v1_0 v1_1 v1_2 v2_0 v2_1 v4_0 v4_1) (by kernel_rfl)
theorem f43t10 N v23 v24 v25 v1_0 v1_1 v1_2 v2_0 v2_1 v4_0 v4_1 v4_2 (K : KT ρ) : f43i N (f43c 87) f43p10 (f43s3 v23 v24 v25 v1_0 v1_1 v1_2 v2_0 v2_1 v4_0 v4_1 v4_2) (joinK (some f43l5) K) =
  impl_CanonicalMatrix.Z10 N v23 v24 v25 v1_0 v1_1 v1_2 v2_0 v2_1 v4_0 v4_1 v4_2 (fun v4_2 v2_0 v2_1 v4_0 v4_1 => K (.exit 0) (f43s5 v4_2 v2_0 v2_1 v4_0 v4_1)) :=
 viaPeelS (cl1 := f43l3) (fun k => impl_CanonicalMatrix.Z12 N v23 v24 v25 v1_0 v1_1 v1_2 v2_0 v2_1 v4_0 v4_1 v4_2 k (fun v4_2 v2_0 v2_1 v4_0 v4_1 => K (.exit 0) (f43s5 v4_2 v2_0 v2_1 v4_0 v4_1))) (by kernel_rfl) (f43t12 N v23 v24 v25 v1_0 v1_1 v1_2 v2_0 v2_1 v4_0 v4_1 v4_2 (seqK (fun σ => f43w10 N N σ (joinK (some f43l5) K)) (joinK (some f43l5) K))) (fx11 fun v23 v4_2 v24 v25 v1_0 v1_1 v1_2 v2_0 v2_1 v4_0 v4_1 => f43t10L N (joinK (some f43l5) K) N v23 v4_2 v24 v25 v1_0 v1_1 v1_2 v2_0 v2_1 v4_0 v4_1) (by kernel_rfl)
noncomputable def f43p9 : Plan := .mk (some f43l5) none f43p10 .n
theorem f43t9 N v23 v24 v25 v1_0 v1_1 v1_2 v2_0 v2_1 v4_0 v4_1 v4_2 (K : KT ρ) : f43i N (f43c 55) f43p9 (f43s3 v23 v24 v25 v1_0 v1_1 v1_2 v2_0 v2_1 v4_0 v4_1 v4_2) (joinK (some f43l5) K) =
  impl_CanonicalMatrix.Z9 N v23 v24 v25 v1_0 v1_1 v1_2 v2_0 v2_1 v4_0 v4_1 v4_2 (fun v4_2 v2_0 v2_1 v4_0 v4_1 => K .nrm (f43s5 v4_2 v2_0 v2_1 v4_0 v4_1)) :=
 viaBlockS (by kernel_rfl) (f43t10 N (K := blockK 0 (joinK (some f43l5) K)) ..) (by kernel_rfl)
noncomputable def f43p7 : Plan := .mk (some f43l3) none .n f43p9
theorem f43t7 N v1_0 v1_1 v1_2 v2_0 v2_1 v4_0 v4_1 v4_2 (K : KT ρ) : f43i N (f43c 23) f43p7 (f43s2 v1_0 v1_1 v1_2 v2_0 v2_1 v4_0 v4_1 v4_2) (joinK (some f43l5) K) =
  impl_CanonicalMatrix.Z7 N v1_0 v1_1 v1_2 v2_0 v2_1 v4_0 v4_1 v4_2 (fun v4_2 v2_0 v2_1 v4_0 v4_1 => K .nrm (f43s5 v4_2 v2_0 v2_1 v4_0 v4_1)) :=
 viaSeqS (fun k => impl_CanonicalMatrix.Z8 N v1_0 v1_1 v1_2 v2_0 v2_1 v4_0 v4_1 v4_2 k) (by kernel_rfl) (f43t8 N (K := seqK (fun σ => f43i N (f43c 55) f43p9 σ (joinK (some f43l5) K)) (joinK (some f43l5) K)) ..) (fx11 fun v23 v24 v25 v1_0 v1_1 v1_2 v2_0 v2_1 v4_0 v4_1 v4_2 => f43t9 N v23 v24 v25 v1_0 v1_1 v1_2 v2_0 v2_1 v4_0 v4_1 v4_2 K) (by kernel_rfl)
theorem f43t13 N v4_2 v2_0 v2_1 v4_0 v4_1 (K : KT ρ) : f43i N (f43c 31) .n (f43s5 v4_2 v2_0 v2_1 v4_0 v4_1) (joinK (some f43lE) K) =
  impl_CanonicalMatrix.Z13 N v4_2 v2_0 v2_1 v4_0 v4_1 (fun v2_2 v3 v2_0 v2_1 => K .ret (f43s6 v2_2 v3 v2_0 v2_1)) := by kernel_rfl
noncomputable def f43p6 : Plan := .mk (some f43l5) none f43p7 .n
theorem f43t6 N v1_0 v1_1 v1_2 v2_0 v2_1 v4_0 v4_1 v4_2 (K : KT ρ) : f43i N (f43c 15) f43p6 (f43s2 v1_0 v1_1 v1_2 v2_0 v2_1 v4_0 v4_1 v4_2) (joinK (some f43lE) K) =
  impl_CanonicalMatrix.Z6 N v1_0 v1_1 v1_2 v2_0 v2_1 v4_0 v4_1 v4_2 (fun v2_2 v3 v2_0 v2_1 => K .ret (f43s6 v2_2 v3 v2_0 v2_1)) :=
 viaSeqS (fun k => impl_CanonicalMatrix.Z7 N v1_0 v1_1 v1_2 v2_0 v2_1 v4_0 v4_1 v4_2 k) (by kernel_rfl) (f43t7 N (K := seqK (fun σ => f43i N (f43c 31) .n σ (joinK (some f43lE) K)) (joinK (some f43lE) K)) ..) (fx5 fun v4_2 v2_0 v2_1 v4_0 v4_1 => f43t13 N v4_2 v2_0 v2_1 v4_0 v4_1 K) (by kernel_rfl)
noncomputable def f43p4 : Plan := .mk (some f43l2) none .n f43p6
theorem f43t4 N v1_0 v1_1 v1_2 v2_0 v2_1 (K : KT ρ) : f43i N (f43c 7) f43p4 (f43s1 v1_0 v1_1 v1_2 v2_0 v2_1) (joinK (some f43lE) K) =
  impl_CanonicalMatrix.Z4 N v1_0 v1_1 v1_2 v2_0 v2_1 (fun v2_2 v3 v2_0 v2_1 => K .ret (f43s6 v2_2 v3 v2_0 v2_1)) :=
 viaSeqS (fun k => impl_CanonicalMatrix.Z5 N v1_0 v1_1 v1_2 v2_0 v2_1 k) (by kernel_rfl) (f43t5 N (K := seqK (fun σ => f43i N (f43c 15) f43p6 σ (joinK (some f43lE) K)) (joinK (some f43lE) K)) ..) (fx8 fun v1_0 v1_1 v1_2 v2_0 v2_1 v4_0 v4_1 v4_2 => f43t6 N v1_0 v1_1 v1_2 v2_0 v2_1 v4_0 v4_1 v4_2 K) (by kernel_rfl)
noncomputable def f43p2 : Plan := .mk (some f43l1) none .n f43p4
theorem f43t2 N v1_0 v1_1 v1_2 v2_0 v2_1 (K : KT ρ) : f43i N (f43c 3) f43p2 (f43s1 v1_0 v1_1 v1_2 v2_0 v2_1) (joinK (some f43lE) K) =
  impl_CanonicalMatrix.Z2 N v1_0 v1_1 v1_2 v2_0 v2_1 (fun v2_2 v3 v2_0 v2_1 => K .ret (f43s6 v2_2 v3 v2_0 v2_1)) :=
 viaSeqS (fun k => impl_CanonicalMatrix.Z3 N v1_0 v1_1 v1_2 v2_0 v2_1 k (fun v2_2 v3 v2_0 v2_1 => K .ret (f43s6 v2_2 v3 v2_0 v2_1))) (by kernel_rfl) (f43t3 N (K := seqK (fun σ => f43i N (f43c 7) f43p4 σ (joinK (some f43lE) K)) (joinK (some f43lE) K)) ..) (fx5 fun v1_0 v1_1 v1_2 v2_0 v2_1 => f43t4 N v1_0 v1_1 v1_2 v2_0 v2_1 K) (by kernel_rfl)
noncomputable def f43p0 : Plan := .mk (some f43l1) none .n f43p2
theorem f43t0 N v0 (K : KT ρ) : f43i N (f43c 1) f43p0 (f43s0 v0) (joinK (some f43lE) K) =
  impl_CanonicalMatrix.Z0 N v0 (fun v2_2 v3 v2_0 v2_1 => K .ret (f43s6 v2_2 v3 v2_0 v2_1)) :=
 viaSeqS (fun k => impl_CanonicalMatrix.Z1 N v0 k) (by kernel_rfl) (f43t1 N (K := seqK (fun σ => f43i N (f43c 3) f43p2 σ (joinK (some f43lE) K)) (joinK (some f43lE) K)) ..) (fx5 fun v1_0 v1_1 v1_2 v2_0 v2_1 => f43t2 N v1_0 v1_1 v1_2 v2_0 v2_1 K) (by kernel_rfl)
theorem f43m (N : Nat) (v0 : MT) : f43i N (f43c 1) f43p0 (f43s0 v0) (joinK (some f43lE) (finK tab f43sig Try.f43.results.toList)) = impl_CanonicalMatrix.Z0 N v0 (fun v2_2 v3 v2_0 v2_1 => some ((), ((v2_0, (v2_1, v2_2)), (v3, ())))) :=
  (f43t0 N v0 (finK tab f43sig Try.f43.results.toList)).trans (by kernel_rfl)
theorem f43ok (h : impl_CanonicalMatrix.Spec) : EntryOk Try.prog 43 e43 :=
  entry_of_code (sig := f43sig) (c := (f43c 1)) (pl := f43p0) (je := (some f43lE)) (B := f43B) Try.func43 (by kernel_rfl) (by kernel_rfl) (by kernel_rfl) tabOk f43GOk (by kernel_rfl) (by kernel_rfl) (by kernel_rfl) (by kernel_rfl) fun X hb hp => by
    obtain ⟨v0, _⟩ := X
    obtain ⟨N, h⟩ := h v0 hb.1
    exact ⟨N, (f43m N v0).trans (h N (Nat.le_refl N))⟩
theorem e43ok : EntryOk Try.prog 43 e43 := f43ok impl_CanonicalMatrix.ok
end Go.Fw
namespace Go.Fw
variable {ρ : Type}
open Go.Proofs
noncomputable def f37sig : Sig := ⟨[⟨.sl 3 (.int .i64), false, false⟩, ⟨.sl 3 (.int .i64), false, false⟩], [⟨.bool, false, false⟩]⟩
noncomputable def e37 : Entry := ⟨f37sig, none, fun X => ((), ((laws_eqIntS.g X.1 X.2.1), ()))⟩
noncomputable def f37G : Gm := emptyG
theorem f37GOk : GOk Try.prog f37G := GOk.nil
noncomputable def f37lE : Clean := ⟨[], [], [], [], []⟩
noncomputable def f37s0 (v0 v1 : LI) : St := initSt f37sig.ps (v0, (v1, ()))
noncomputable def f37s1 (v0 v1 : LI) : St := stOf [(0, .c (.sn 3 tI v0 none)), (1, .c (.sn 3 tI v1 none))] [] []
noncomputable def f37l1 : Clean := ⟨[0, 1], [], [], [], []⟩
noncomputable def f37s2 (v0 v1 : LI) (v5 : Int) : St := stOf [(0, .c (.sn 3 tI v0 none)), (1, .c (.sn 3 tI v1 none)), (5, xi v5)] [] []
noncomputable def f37l2 : Clean := ⟨[0, 1, 5], [], [], [], []⟩
noncomputable def f37s3  : St := stOf [] [] []
noncomputable def f37l3 : Clean := ⟨[], [], [], [], []⟩
noncomputable def f37s4 (v4 : Bool) : St := stOf [(4, xB v4)] [] []
noncomputable def f37l4 : Clean := ⟨[4], [], [], [], []⟩
noncomputable def f37B : Nat → Option Clean := lookL [(0, f37l3), (1000000, f37l4)]
noncomputable abbrev f37i {ρ : Type} (N : Nat) (c : Code) (p : Plan) (σ : St) (K : KT ρ) : Option ρ := iCode f37G tab f37B N c p σ K
noncomputable def f37c (n : Nat) : Code := codeN 99 (bodyOf Try.f37) n
theorem f37t1 N v0 v1 (K : KT ρ) : f37i N (f37c 2) .n (f37s0 v0 v1) (joinK (some f37l1) K) =
  laws_eqIntS.Z1 N v0 v1 (fun v0 v1 => K .nrm (f37s1 v0 v1)) := by kernel_rfl
theorem f37t3 N v0 v1 (K : KT ρ) : f37i N (f37c 5) .n (f37s1 v0 v1) (joinK (some f37l1) K) =
  laws_eqIntS.Z3 N v0 v1 (fun v0 v1 => K .nrm (f37s1 v0 v1)) (fun v4 => K .ret (f37s4 v4)) := by kernel_rfl
theorem f37t6 N v0 v1 (K : KT ρ) : f37i N (f37c 19) .n (f37s1 v0 v1) (joinK (some f37l2) K) =
  laws_eqIntS.Z6 N v0 v1 (fun v0 v1 v5 => K .nrm (f37s2 v0 v1 v5)) := by kernel_rfl
theorem f37t9 N v0 v1 v5 (K : KT ρ) : f37i N (f37c 75) .n (f37s2 v0 v1 v5) (joinK (some f37l2) K) =
  laws_eqIntS.Z9 N v0 v1 v5 (fun v0 v1 v5 => K .nrm (f37s2 v0 v1 v5)) (K (.exit 0) f37s3) (fun v4 => K .ret (f37s4 v4)) := by kernel_rfl
noncomputable def f37p8 : Plan := .mk none (some f37l2) .n .n
noncomputable abbrev f37w8 {ρ : Type} (N M : Nat) (σ : St) (K : KT ρ) : Option ρ := loopC (fun σ K => f37i N (f37c 75) .n σ K) f37l2 M σ K
theorem f37t8L {ρ : Type} (N : Nat) (K : KT ρ) : ∀ (M : Nat) (v0 v1 : LI) (v5 : Int), f37w8 N M (f37s2 v0 v1 v5) K =
  laws_eqIntS.Z8L N (K (.exit 0) f37s3) (fun v4 => K .ret (f37s4 v4)) M v0 v1 v5
  | 0, _, _, _ => rfl
  | M + 1, v0, v1, v5 => viaRoundS (fun k => laws_eqIntS.Z9 N v0 v1 v5 k (K (.exit 0) f37s3) (fun v4 => K .ret (f37s4 v4))) (f37t9 N (K := seqK (fun σ => f37w8 N M σ K) K) ..) (fx3 fun v0 v1 v5 => f37t8L N K M v0 v1 v5) (by kernel_rfl)
theorem f37t8 N v0 v1 v5 (K : KT ρ) : f37i N (f37c 43) f37p8 (f37s2 v0 v1 v5) (joinK (some f37l3) K) =
  laws_eqIntS.Z8 N v0 v1 v5 (K (.exit 0) f37s3) (fun v4 => K .ret (f37s4 v4)) :=
 viaLoopS (by kernel_rfl) (f37t8L N (joinK (some f37l3) K) N v0 v1 v5) (by kernel_rfl)
noncomputable def f37p7 : Plan := .mk (some f37l3) none f37p8 .n
theorem f37t7 N v0 v1 v5 (K : KT ρ) : f37i N (f37c 27) f37p7 (f37s2 v0 v1 v5) (joinK (some f37l3) K) =
  laws_eqIntS.Z7 N v0 v1 v5 (K .nrm f37s3) (fun v4 => K .ret (f37s4 v4)) :=
 viaBlockS (by kernel_rfl) (f37t8 N (K := blockK 0 (joinK (some f37l3) K)) ..) (by kernel_rfl)
noncomputable def f37p5 : Plan := .mk (some f37l2) none .n f37p7
theorem f37t5 N v0 v1 (K : KT ρ) : f37i N (f37c 11) f37p5 (f37s1 v0 v1) (joinK (some f37l3) K) =
  laws_eqIntS.Z5 N v0 v1 (K .nrm f37s3) (fun v4 => K .ret (f37s4 v4)) :=
 viaSeqS (fun k => laws_eqIntS.Z6 N v0 v1 k) (by kernel_rfl) (f37t6 N (K := seqK (fun σ => f37i N (f37c 27) f37p7 σ (joinK (some f37l3) K)) (joinK (some f37l3) K)) ..) (fx3 fun v0 v1 v5 => f37t7 N v0 v1 v5 K) (by kernel_rfl)
theorem f37t10 N  (K : KT ρ) : f37i N (f37c 15) .n f37s3 (joinK (some f37lE) K) =
  laws_eqIntS.Z10 N (fun v4 => K .ret (f37s4 v4)) := by kernel_rfl
noncomputable def f37p4 : Plan := .mk (some f37l3) none f37p5 .n
theorem f37t4 N v0 v1 (K : KT ρ) : f37i N (f37c 7) f37p4 (f37s1 v0 v1) (joinK (some f37lE) K) =
  laws_eqIntS.Z4 N v0 v1 (fun v4 => K .ret (f37s4 v4)) :=
 viaSeqS (fun k => laws_eqIntS.Z5 N v0 v1 k (fun v4 => K .ret (f37s4 v4))) (by kernel_rfl) (f37t5 N (K := seqK (fun σ => f37i N (f37c 15) .n σ (joinK (some f37lE) K)) (joinK (some f37lE) K)) ..) (f37t10 N K) (by kernel_rfl)
noncomputable def f37p2 : Plan := .mk (some f37l1) none .n f37p4
theorem f37t2 N v0 v1 (K : KT ρ) : f37i N (f37c 3) f37p2 (f37s1 v0 v1) (joinK (some f37lE) K) =
  laws_eqIntS.Z2 N v0 v1 (fun v4 => K .ret (f37s4 v4)) :=
 viaSeqS (fun k => laws_eqIntS.Z3 N v0 v1 k (fun v4 => K .ret (f37s4 v4))) (by kernel_rfl) (f37t3 N (K := seqK (fun σ => f37i N (f37c 7) f37p4 σ (joinK (some f37lE) K)) (joinK (some f37lE) K)) ..) (fx2 fun v0 v1 => f37t4 N v0 v1 K) (by kernel_rfl)
noncomputable def f37p0 : Plan := .mk (some f37l1) none .n f37p2
theorem f37t0 N v0 v1 (K : KT ρ) : f37i N (f37c 1) f37p0 (f37s0 v0 v1) (joinK (some f37lE) K) =
  laws_eqIntS.Z0 N v0 v1 (fun v4 => K .ret (f37s4 v4)) :=
 viaSeqS (fun k => laws_eqIntS.Z1 N v0 v1 k) (by kernel_rfl) (f37t1 N (K := seqK (fun σ => f37i N (f37c 3) f37p2 σ (joinK (some f37lE) K)) (joinK (some f37lE) K)) ..) (fx2 fun v0 v1 => f37t2 N v0 v1 K) (by kernel_rfl)
theorem f37m (N : Nat) (v0 v1 : LI) : f37i N (f37c 1) f37p0 (f37s0 v0 v1) (joinK (some f37lE) (finK tab f37sig Try.f37.results.toList)) = laws_eqIntS.Z0 N v0 v1 (fun v4 => some ((), (v4, ()))) :=
  (f37t0 N v0 v1 (finK tab f37sig Try.f37.results.toList)).trans (by kernel_rfl)
theorem f37ok (h : laws_eqIntS.Spec) : EntryOk Try.prog 37 e37 :=
  entry_of_code (sig := f37sig) (c := (f37c 1)) (pl := f37p0) (je := (some f37lE)) (B := f37B) Try.func37 (by kernel_rfl) (by kernel_rfl) (by kernel_rfl) tabOk f37GOk (by kernel_rfl) (by kernel_rfl) (by kernel_rfl) (by kernel_rfl) fun X hb hp => by
    obtain ⟨v0, v1, _⟩ := X
    obtain ⟨N, h⟩ := h v0 v1 hb.1 hb.2.1
    exact ⟨N, (f37m N v0 v1).trans (h N (Nat.le_refl N))⟩
theorem e37ok : EntryOk Try.prog 37 e37 := f37ok laws_eqIntS.ok
end Go.Fw
namespace Go.Fw
variable {ρ : Type}
open Go.Proofs
noncomputable def f21sig : Sig := ⟨[⟨.pair (.int .i64) (.pair (.int .i64) (.sl 3 (.int .i64))), true, false⟩, ⟨.pair (.int .i64) (.pair (.int .i64) (.sl 3 (.int .i64))), true, false⟩], [⟨.bool, false, false⟩]⟩
noncomputable def e21 : Entry := ⟨f21sig, none, fun X => ((), ((laws_eqMatrix.g X.1 X.2.1), ()))⟩
noncomputable def f21G : Gm := addG emptyG 37 e37
theorem f21GOk : GOk Try.prog f21G := (GOk.nil).add e37ok (by kernel_rfl)
noncomputable def f21lE : Clean := ⟨[], [], [], [], []⟩
noncomputable def f21s0 (v0 v1 : MT) : St := initSt f21sig.ps (v0, (v1, ()))
noncomputable def f21s1 (v4 : Bool) : St := stOf [(4, xB v4)] [] []
noncomputable def f21l1 : Clean := ⟨[4], [], [], [], []⟩
noncomputable def f21B : Nat → Option Clean := lookL [(1000000, f21l1)]
noncomputable abbrev f21i {ρ : Type} (N : Nat) (c : Code) (p : Plan) (σ : St) (K : KT ρ) : Option ρ := iCode f21G tab f21B N c p σ K
noncomputable def f21c (n : Nat) : Code := codeN 99 (bodyOf Try.f21) n
theorem f21t0 N v0 v1 (K : KT ρ) : f21i N (f21c 1) .n (f21s0 v0 v1) (joinK (some f21lE) K) =
  laws_eqMatrix.Z0 N v0 v1 (fun v4 => K .ret (f21s1 v4)) := by kernel_rfl
theorem f21m (N : Nat) (v0 v1 : MT) : f21i N (f21c 1) .n (f21s0 v0 v1) (joinK (some f21lE) (finK tab f21sig Try.f21.results.toList)) = laws_eqMatrix.Z0 N v0 v1 (fun v4 => some ((), (v4, ()))) :=
  (f21t0 N v0 v1 (finK tab f21sig Try.f21.results.toList)).trans (by kernel_rfl)
theorem f21ok (h : laws_eqMatrix.Spec) : EntryOk Try.prog 21 e21 :=
  entry_of_code (sig := f21sig) (c := (f21c 1)) (pl := .n) (je := (some f21lE)) (B := f21B) Try.func21 (by kernel_rfl) (by kernel_rfl) (by kernel_rfl) tabOk f21GOk (by kernel_rfl) (by kernel_rfl) (by kernel_rfl) (by kernel_rfl) fun X hb hp => by
    obtain ⟨v0, v1, _⟩ := X
    obtain ⟨N, h⟩ := h v0 v1 hb.1 hb.2.1
    exact ⟨N, (f21m N v0 v1).trans (h N (Nat.le_refl N))⟩
theorem e21ok : EntryOk Try.prog 21 e21 := f21ok laws_eqMatrix.ok
end Go.Fw
namespace Go.Fw
variable {ρ : Type}
open Go.Proofs
noncomputable def f38sig : Sig := ⟨[⟨.sl 3 (.int .i64), false, true⟩, ⟨.int .i64, false, false⟩], [⟨.int .i64, false, false⟩]⟩
noncomputable def e38 : Entry := ⟨f38sig, none, fun X => ((laws_markIntS.g X.1 X.2.1).1, ((laws_markIntS.g X.1 X.2.1).2, ()))⟩
noncomputable def f38G : Gm := emptyG
theorem f38GOk : GOk Try.prog f38G := GOk.nil
noncomputable def f38lE : Clean := ⟨[], [], [], [], []⟩
noncomputable def f38s0 (v0 : LI) (v1 : Int) : St := initSt f38sig.ps (v0, (v1, ()))
noncomputable def f38s1 (v0 : LI) (v1 : Int) : St := stOf [(0, xo 1000000), (1, xi v1), (100000, xo 1000000)] [] [(1000000, (⟨3, .int .i64, v0, true, false⟩ : Row))]
noncomputable def f38l1 : Clean := ⟨[0, 1, 100000], [], [], [], [(⟨false, 0, 0⟩, 1000000)]⟩
noncomputable def f38s2 (v0 : LI) (v1 v5 : Int) : St := stOf [(0, xo 1000000), (1, xi v1), (5, xi v5), (100000, xo 1000000)] [] [(1000000, (⟨3, .int .i64, v0, true, false⟩ : Row))]
noncomputable def f38l2 : Clean := ⟨[0, 1, 5, 100000], [], [], [], [(⟨false, 0, 0⟩, 1000000)]⟩
noncomputable def f38s3 (io100000 : LI) (v1 : Int) : St := stOf [(1, xi v1), (100000, xo 7400000)] [] [(7400000, (⟨3, .int .i64, io100000, true, false⟩ : Row))]
noncomputable def f38l3 : Clean := ⟨[1, 100000], [], [], [], [(⟨false, 100000, 0⟩, 7400000)]⟩
noncomputable def f38s4 (io100000 : LI) (v4 : Int) : St := stOf [(4, xi v4), (100000, xo 7400000)] [] [(7400000, (⟨3, .int .i64, io100000, true, false⟩ : Row))]
noncomputable def f38l4 : Clean := ⟨[4, 100000], [], [], [], [(⟨false, 100000, 0⟩, 7400000)]⟩
noncomputable def f38B : Nat → Option Clean := lookL [(0, f38l3), (1000000, f38l4)]
noncomputable abbrev f38i {ρ : Type} (N : Nat) (c : Code) (p : Plan) (σ : St) (K : KT ρ) : Option ρ := iCode f38G tab f38B N c p σ K
noncomputable def f38c (n : Nat) : Code := codeN 99 (bodyOf Try.f38) n
theorem f38t1 N v0 v1 (K : KT ρ) : f38i N (f38c 2) .n (f38s0 v0 v1) (joinK (some f38l1) K) =
  laws_markIntS.Z1 N v0 v1 (fun v0 v1 => K .nrm (f38s1 v0 v1)) := by kernel_rfl
theorem f38t4 N v0 v1 (K : KT ρ) : f38i N (f38c 9) .n (f38s1 v0 v1) (joinK (some f38l2) K) =
  laws_markIntS.Z4 N v0 v1 (fun v0 v1 v5 => K .nrm (f38s2 v0 v1 v5)) := by kernel_rfl
theorem f38t7 N v0 v1 v5 (K : KT ρ) : f38i N (f38c 37) .n (f38s2 v0 v1 v5) (joinK (some f38l2) K) =
  laws_markIntS.Z7 N v0 v1 v5 (fun v0 v1 v5 => K .nrm (f38s2 v0 v1 v5)) (fun io100000 v1 => K (.exit 0) (f38s3 io100000 v1)) := by kernel_rfl
noncomputable def f38p6 : Plan := .mk none (some f38l2) .n .n
noncomputable abbrev f38w6 {ρ : Type} (N M : Nat) (σ : St) (K : KT ρ) : Option ρ := loopC (fun σ K => f38i N (f38c 37) .n σ K) f38l2 M σ K
theorem f38t6L {ρ : Type} (N : Nat) (K : KT ρ) : ∀ (M : Nat) (v0 : LI) (v1 v5 : Int), f38w6 N M (f38s2 v0 v1 v5) K =
  laws_markIntS.Z6L N (fun io100000 v1 => K (.exit 0) (f38s3 io100000 v1)) M v0 v1 v5
  | 0, _, _, _ => rfl
  | M + 1, v0, v1, v5 => viaRoundS (fun k => laws_markIntS.Z7 N v0 v1 v5 k (fun io100000 v1 => K (.exit 0) (f38s3 io100000 v1))) (f38t7 N (K := seqK (fun σ => f38w6 N M σ K) K) ..) (fx3 fun v0 v1 v5 => f38t6L N K M v0 v1 v5) (by kernel_rfl)
theorem f38t6 N v0 v1 v5 (K : KT ρ) : f38i N (f38c 21) f38p6 (f38s2 v0 v1 v5) (joinK (some f38l3) K) =
  laws_markIntS.Z6 N v0 v1 v5 (fun io100000 v1 => K (.exit 0) (f38s3 io100000 v1)) :=
 viaLoopS (by kernel_rfl) (f38t6L N (joinK (some f38l3) K) N v0 v1 v5) (by kernel_rfl)
noncomputable def f38p5 : Plan := .mk (some f38l3) none f38p6 .n
theorem f38t5 N v0 v1 v5 (K : KT ρ) : f38i N (f38c 13) f38p5 (f38s2 v0 v1 v5) (joinK (some f38l3) K) =
  laws_markIntS.Z5 N v0 v1 v5 (fun io100000 v1 => K .nrm (f38s3 io100000 v1)) :=
 viaBlockS (by kernel_rfl) (f38t6 N (K := blockK 0 (joinK (some f38l3) K)) ..) (by kernel_rfl)
noncomputable def f38p3 : Plan := .mk (some f38l2) none .n f38p5
theorem f38t3 N v0 v1 (K : KT ρ) : f38i N (f38c 5) f38p3 (f38s1 v0 v1) (joinK (some f38l3) K) =
  laws_markIntS.Z3 N v0 v1 (fun io100000 v1 => K .nrm (f38s3 io100000 v1)) :=
 viaSeqS (fun k => laws_markIntS.Z4 N v0 v1 k) (by kernel_rfl) (f38t4 N (K := seqK (fun σ => f38i N (f38c 13) f38p5 σ (joinK (some f38l3) K)) (joinK (some f38l3) K)) ..) (fx3 fun v0 v1 v5 => f38t5 N v0 v1 v5 K) (by kernel_rfl)
theorem f38t8 N io100000 v1 (K : KT ρ) : f38i N (f38c 7) .n (f38s3 io100000 v1) (joinK (some f38lE) K) =
  laws_markIntS.Z8 N io100000 v1 (fun io100000 v4 => K .ret (f38s4 io100000 v4)) := by kernel_rfl
noncomputable def f38p2 : Plan := .mk (some f38l3) none f38p3 .n
theorem f38t2 N v0 v1 (K : KT ρ) : f38i N (f38c 3) f38p2 (f38s1 v0 v1) (joinK (some f38lE) K) =
  laws_markIntS.Z2 N v0 v1 (fun io100000 v4 => K .ret (f38s4 io100000 v4)) :=
 viaSeqS (fun k => laws_markIntS.Z3 N v0 v1 k) (by kernel_rfl) (f38t3 N (K := seqK (fun σ => f38i N (f38c 7) .n σ (joinK (some f38lE) K)) (joinK (some f38lE) K)) ..) (fx2 fun io100000 v1 => f38t8 N io100000 v1 K) (by kernel_rfl)
noncomputable def f38p0 : Plan := .mk (some f38l1) none .n f38p2
theorem f38t0 N v0 v1 (K : KT ρ) : f38i N (f38c 1) f38p0 (f38s0 v0 v1) (joinK (some f38lE) K) =
  laws_markIntS.Z0 N v0 v1 (fun io100000 v4 => K .ret (f38s4 io100000 v4)) :=
 viaSeqS (fun k => laws_markIntS.Z1 N v0 v1 k) (by kernel_rfl) (f38t1 N (K := seqK (fun σ => f38i N (f38c 3) f38p2 σ (joinK (some f38lE) K)) (joinK (some f38lE) K)) ..) (fx2 fun v0 v1 => f38t2 N v0 v1 K) (by kernel_rfl)
theorem f38m (N : Nat) (v0 : LI) (v1 : Int) : f38i N (f38c 1) f38p0 (f38s0 v0 v1) (joinK (some f38lE) (finK tab f38sig Try.f38.results.toList)) = laws_markIntS.Z0 N v0 v1 (fun io100000 v4 => some (io100000, (v4, ()))) :=
  (f38t0 N v0 v1 (finK tab f38sig Try.f38.results.toList)).trans (by kernel_rfl)
theorem f38ok (h : laws_markIntS.Spec) : EntryOk Try.prog 38 e38 :=
  entry_of_code (sig := f38sig) (c := (f38c 1)) (pl := f38p0) (je := (some f38lE)) (B := f38B) Try.func38 (by kernel_rfl) (by kernel_rfl) (by kernel_rfl) tabOk f38GOk (by kernel_rfl) (by kernel_rfl) (by kernel_rfl) (by kernel_rfl) fun X hb hp => by
    obtain ⟨v0, v1, _⟩ := X
    obtain ⟨N, h⟩ := h v0 v1 hb.1
    exact ⟨N, (f38m N v0 v1).trans (h N (Nat.le_refl N))⟩
theorem e38ok : EntryOk Try.prog 38 e38 := f38ok laws_markIntS.ok
end Go.Fw
namespace Go.Fw
variable {ρ : Type}
open Go.Proofs
noncomputable def f22sig : Sig := ⟨[⟨.pair (.int .i64) (.pair (.int .i64) (.sl 3 (.int .i64))), true, true⟩, ⟨.int .i64, false, false⟩], [⟨.int .i64, false, false⟩]⟩
noncomputable def e22 : Entry := ⟨f22sig, none, fun X => ((laws_markMatrix.g X.1 X.2.1).1, ((laws_markMatrix.g X.1 X.2.1).2, ()))⟩
noncomputable def f22G : Gm := addG emptyG 38 e38
theorem f22GOk : GOk Try.prog f22G := (GOk.nil).add e38ok (by kernel_rfl)
noncomputable def f22lE : Clean := ⟨[], [], [], [], []⟩
noncomputable def f22s0 (v0 : MT) (v1 : Int) : St := initSt f22sig.ps (v0, (v1, ()))
noncomputable def f22s1 (io100000_2 : LI) (v4 io100000_0 io100000_1 : Int) : St := stOf [(4, xi v4), (100000, .agg [yi io100000_0, yi io100000_1, .own 7400002])] [] [(7400002, (⟨3, .int .i64, io100000_2, true, false⟩ : Row))]
noncomputable def f22l1 : Clean := ⟨[4, 100000], [], [], [], [(⟨false, 100000, 2⟩, 7400002)]⟩
noncomputable def f22B : Nat → Option Clean := lookL [(1000000, f22l1)]
noncomputable abbrev f22i {ρ : Type} (N : Nat) (c : Code) (p : Plan) (σ : St) (K : KT ρ) : Option ρ := iCode f22G tab f22B N c p σ K
noncomputable def f22c (n : Nat) : Code := codeN 99 (bodyOf Try.f22) n
theorem f22t0 N v0 v1 (K : KT ρ) : f22i N (f22c 1) .n (f22s0 v0 v1) (joinK (some f22lE) K) =
  laws_markMatrix.Z0 N v0 v1 (fun io100000_2 v4 io100000_0 io100000_1 => K .ret (f22s1 io100000_2 v4 io100000_0 io100000_1)) := by kernel_rfl
theorem f22m (N : Nat) (v0 : MT) (v1 : Int) : f22i N (f22c 1) .n (f22s0 v0 v1) (joinK (some f22lE) (finK tab f22sig Try.f22.results.toList)) = laws_markMatrix.Z0 N v0 v1 (fun io100000_2 v4 io100000_0 io100000_1 => some ((io100000_0, (io100000_1, io100000_2)), (v4, ()))) :=
  (f22t0 N v0 v1 (finK tab f22sig Try.f22.results.toList)).trans (by kernel_rfl)
theorem f22ok (h : laws_markMatrix.Spec) : EntryOk Try.prog 22 e22 :=
  entry_of_code (sig := f22sig) (c := (f22c 1)) (pl := .n) (je := (some f22lE)) (B := f22B) Try.func22 (by kernel_rfl) (by kernel_rfl) (by kernel_rfl) tabOk f22GOk (by kernel_rfl) (by kernel_rfl) (by kernel_rfl) (by kernel_rfl) fun X hb hp => by
    obtain ⟨v0, v1, _⟩ := X
    obtain ⟨N, h⟩ := h v0 v1 hb.1
    exact ⟨N, (f22m N v0 v1).trans (h N (Nat.le_refl N))⟩
theorem e22ok : EntryOk Try.prog 22 e22 := f22ok laws_markMatrix.ok
end Go.Fw
namespace Go.Fw
variable {ρ : Type}
open Go.Proofs
noncomputable def f64sig : Sig := ⟨[⟨.sl 3 (.int .i64), false, false⟩, ⟨.int .i64, false, false⟩], [⟨.int .i64, false, false⟩]⟩
noncomputable def e64 : Entry := ⟨f64sig, none, fun X => ((), ((laws_heldIntS.g X.1 X.2.1), ()))⟩
noncomputable def f64G : Gm := emptyG
theorem f64GOk : GOk Try.prog f64G := GOk.nil
noncomputable def f64lE : Clean := ⟨[], [], [], [], []⟩
noncomputable def f64s0 (v0 : LI) (v1 : Int) : St := initSt f64sig.ps (v0, (v1, ()))
noncomputable def f64s1 (v0 : LI) (v1 : Int) : St := stOf [(0, .c (.sn 3 tI v0 none)), (1, xi v1)] [] []
noncomputable def f64l1 : Clean := ⟨[0, 1], [], [], [], []⟩
noncomputable def f64s2 (v0 : LI) (v1 v5 : Int) : St := stOf [(0, .c (.sn 3 tI v0 none)), (1, xi v1), (5, xi v5)] [] []
noncomputable def f64l2 : Clean := ⟨[0, 1, 5], [], [], [], []⟩
noncomputable def f64s3 (v1 : Int) : St := stOf [(1, xi v1)] [] []
noncomputable def f64l3 : Clean := ⟨[1], [], [], [], []⟩
noncomputable def f64s4 (v4 : Int) : St := stOf [(4, xi v4)] [] []
noncomputable def f64l4 : Clean := ⟨[4], [], [], [], []⟩
noncomputable def f64B : Nat → Option Clean := lookL [(0, f64l3), (1000000, f64l4)]
noncomputable abbrev f64i {ρ : Type} (N : Nat) (c : Code) (p : Plan) (σ : St) (K : KT ρ) : Option ρ := iCode f64G tab f64B N c p σ K
noncomputable def f64c (n : Nat) : Code := codeN 99 (bodyOf Try.f64) n
theorem f64t1 N v0 v1 (K : KT ρ) : f64i N (f64c 2) .n (f64s0 v0 v1) (joinK (some f64l1) K) =
  laws_heldIntS.Z1 N v0 v1 (fun v0 v1 => K .nrm (f64s1 v0 v1)) := by kernel_rfl
theorem f64t4 N v0 v1 (K : KT ρ) : f64i N (f64c 9) .n (f64s1 v0 v1) (joinK (some f64l2) K) =
  laws_heldIntS.Z4 N v0 v1 (fun v0 v1 v5 => K .nrm (f64s2 v0 v1 v5)) := by kernel_rfl
theorem f64t7 N v0 v1 v5 (K : KT ρ) : f64i N (f64c 37) .n (f64s2 v0 v1 v5) (joinK (some f64l2) K) =
  laws_heldIntS.Z7 N v0 v1 v5 (fun v0 v1 v5 => K .nrm (f64s2 v0 v1 v5)) (fun v1 => K (.exit 0) (f64s3 v1)) (fun v4 => K .ret (f64s4 v4)) := by kernel_rfl
noncomputable def f64p6 : Plan := .mk none (some f64l2) .n .n
noncomputable abbrev f64w6 {ρ : Type} (N M : Nat) (σ : St) (K : KT ρ) : Option ρ := loopC (fun σ K => f64i N (f64c 37) .n σ K) f64l2 M σ K
theorem f64t6L {ρ : Type} (N : Nat) (K : KT ρ) : ∀ (M : Nat) (v0 : LI) (v1 v5 : Int), f64w6 N M (f64s2 v0 v1 v5) K =
  laws_heldIntS.Z6L N (fun v1 => K (.exit 0) (f64s3 v1)) (fun v4 => K .ret (f64s4 v4)) M v0 v1 v5
  | 0, _, _, _ => rfl
  | M + 1, v0, v1, v5 => viaRoundS (fun k => laws_heldIntS.Z7 N v0 v1 v5 k (fun v1 => K (.exit 0) (f64s3 v1)) (fun v4 => K .ret (f64s4 v4))) (f64t7 N (K := seqK (fun σ => f64w6 N M σ K) K) ..) (fx3 fun v0 v1 v5 => f64t6L N K M v0 v1 v5) (by kernel_rfl)
theorem f64t6 N v0 v1 v5 (K : KT ρ) : f64i N (f64c 21) f64p6 (f64s2 v0 v1 v5) (joinK (some f64l3) K) =
  laws_heldIntS.Z6 N v0 v1 v5 (fun v1 => K (.exit 0) (f64s3 v1)) (fun v4 => K .ret (f64s4 v4)) :=
 viaLoopS (by kernel_rfl) (f64t6L N (joinK (some f64l3) K) N v0 v1 v5) (by kernel_rfl)
noncomputable def f64p5 : Plan := .mk (some f64l3) none f64p6 .n
theorem f64t5 N v0 v1 v5 (K : KT ρ) : f64i N (f64c 13) f64p5 (f64s2 v0 v1 v5) (joinK (some f64l3) K) =
  laws_heldIntS.Z5 N v0 v1 v5 (fun v1 => K .nrm (f64s3 v1)) (fun v4 => K .ret (f64s4 v4)) :=
 viaBlockS (by kernel_rfl) (f64t6 N (K := blockK 0 (joinK (some f64l3) K)) ..) (by kernel_rfl)
noncomputable def f64p3 : Plan := .mk (some f64l2) none .n f64p5
theorem f64t3 N v0 v1 (K : KT ρ) : f64i N (f64c 5) f64p3 (f64s1 v0 v1) (joinK (some f64l3) K) =
  laws_heldIntS.Z3 N v0 v1 (fun v1 => K .nrm (f64s3 v1)) (fun v4 => K .ret (f64s4 v4)) :=
 viaSeqS (fun k => laws_heldIntS.Z4 N v0 v1 k) (by kernel_rfl) (f64t4 N (K := seqK (fun σ => f64i N (f64c 13) f64p5 σ (joinK (some f64l3) K)) (joinK (some f64l3) K)) ..) (fx3 fun v0 v1 v5 => f64t5 N v0 v1 v5 K) (by kernel_rfl)
theorem f64t8 N v1 (K : KT ρ) : f64i N (f64c 7) .n (f64s3 v1) (joinK (some f64lE) K) =
  laws_heldIntS.Z8 N v1 (fun v4 => K .ret (f64s4 v4)) := by kernel_rfl
noncomputable def f64p2 : Plan := .mk (some f64l3) none f64p3 .n
theorem f64t2 N v0 v1 (K : KT ρ) : f64i N (f64c 3) f64p2 (f64s1 v0 v1) (joinK (some f64lE) K) =
  laws_heldIntS.Z2 N v0 v1 (fun v4 => K .ret (f64s4 v4)) :=
 viaSeqS (fun k => laws_heldIntS.Z3 N v0 v1 k (fun v4 => K .ret (f64s4 v4))) (by kernel_rfl) (f64t3 N (K := seqK (fun σ => f64i N (f64c 7) .n σ (joinK (some f64lE) K)) (joinK (some f64lE) K)) ..) (funext fun v1 => f64t8 N v1 K) (by kernel_rfl)
noncomputable def f64p0 : Plan := .mk (some f64l1) none .n f64p2
theorem f64t0 N v0 v1 (K : KT ρ) : f64i N (f64c 1) f64p0 (f64s0 v0 v1) (joinK (some f64lE) K) =
  laws_heldIntS.Z0 N v0 v1 (fun v4 => K .ret (f64s4 v4)) :=
 viaSeqS (fun k => laws_heldIntS.Z1 N v0 v1 k) (by kernel_rfl) (f64t1 N (K := seqK (fun σ => f64i N (f64c 3) f64p2 σ (joinK (some f64lE) K)) (joinK (some f64lE) K)) ..) (fx2 fun v0 v1 => f64t2 N v0 v1 K) (by kernel_rfl)
theorem f64m (N : Nat) (v0 : LI) (v1 : Int) : f64i N (f64c 1) f64p0 (f64s0 v0 v1) (joinK (some f64lE) (finK tab f64sig Try.f64.results.toList)) = laws_heldIntS.Z0 N v0 v1 (fun v4 => some ((), (v4, ()))) :=
  (f64t0 N v0 v1 (finK tab f64sig Try.f64.results.toList)).trans (by kernel_rfl)
theorem f64ok (h : laws_heldIntS.Spec) : EntryOk Try.prog 64 e64 :=
  entry_of_code (sig := f64sig) (c := (f64c 1)) (pl := f64p0) (je := (some f64lE)) (B := f64B) Try.func64 (by kernel_rfl) (by kernel_rfl) (by kernel_rfl) tabOk f64GOk (by kernel_rfl) (by kernel_rfl) (by kernel_rfl) (by kernel_rfl) fun X hb hp => by
    obtain ⟨v0, v1, _⟩ := X
    obtain ⟨N, h⟩ := h v0 v1 hb.1
    exact ⟨N, (f64m N v0 v1).trans (h N (Nat.le_refl N))⟩
theorem e64ok : EntryOk Try.prog 64 e64 := f64ok laws_heldIntS.ok
end Go.Fw
namespace Go.Fw
variable {ρ : Type}
open Go.Proofs
noncomputable def f44sig : Sig := ⟨[⟨.pair (.int .i64) (.pair (.int .i64) (.sl 3 (.int .i64))), true, false⟩, ⟨.int .i64, false, false⟩], [⟨.int .i64, false, false⟩]⟩
noncomputable def e44 : Entry := ⟨f44sig, none, fun X => ((), ((laws_heldMatrix.g X.1 X.2.1), ()))⟩
noncomputable def f44G : Gm := addG emptyG 64 e64
theorem f44GOk : GOk Try.prog f44G := (GOk.nil).add e64ok (by kernel_rfl)
noncomputable def f44lE : Clean := ⟨[], [], [], [], []⟩
noncomputable def f44s0 (v0 : MT) (v1 : Int) : St := initSt f44sig.ps (v0, (v1, ()))
noncomputable def f44s1 (v4 : Int) : St := stOf [(4, xi v4)] [] []
noncomputable def f44l1 : Clean := ⟨[4], [], [], [], []⟩
noncomputable def f44B : Nat → Option Clean := lookL [(1000000, f44l1)]
noncomputable abbrev f44i {ρ : Type} (N : Nat) (c : Code) (p : Plan) (σ : St) (K : KT ρ) : Option ρ := iCode f44G tab f44B N c p σ K
noncomputable def f44c (n : Nat) : Code := codeN 99 (bodyOf Try.f44) n
theorem f44t0 N v0 v1 (K : KT ρ) : f44i N (f44c 1) .n (f44s0 v0 v1) (joinK (some f44lE) K) =
  laws_heldMatrix.Z0 N v0 v1 (fun v4 => K .ret (f44s1 v4)) := by kernel_rfl
theorem f44m (N : Nat) (v0 : MT) (v1 : Int) : f44i N (f44c 1) .n (f44s0 v0 v1) (joinK (some f44lE) (finK tab f44sig Try.f44.results.toList)) = laws_heldMatrix.Z0 N v0 v1 (fun v4 => some ((), (v4, ()))) :=
  (f44t0 N v0 v1 (finK tab f44sig Try.f44.results.toList)).trans (by kernel_rfl)
theorem f44ok (h : laws_heldMatrix.Spec) : EntryOk Try.prog 44 e44 :=
  entry_of_code (sig := f44sig) (c := (f44c 1)) (pl := .n) (je := (some f44lE)) (B := f44B) Try.func44 (by kernel_rfl) (by kernel_rfl) (by kernel_rfl) tabOk f44GOk (by kernel_rfl) (by kernel_rfl) (by kernel_rfl) (by kernel_rfl) fun X hb hp => by
    obtain ⟨v0, v1, _⟩ := X
    obtain ⟨N, h⟩ := h v0 v1 hb.1
    exact ⟨N, (f44m N v0 v1).trans (h N (Nat.le_refl N))⟩
theorem e44ok : EntryOk Try.prog 44 e44 := f44ok laws_heldMatrix.ok
end Go.Fw
namespace Go.Fw
variable {ρ : Type}
open Go.Proofs
noncomputable def f8sig : Sig := ⟨[⟨.pair (.int .i64) (.pair (.int .i64) (.sl 3 (.int .i64))), true, false⟩], [⟨.bool, false, false⟩]⟩
noncomputable def e8 : Entry := ⟨f8sig, none, fun X => ((), ((laws_FnExactCanonicalMatrix.g X.1), ()))⟩
noncomputable def f8G : Gm := addG (addG (addG (addG (addG (addG (addG emptyG 16 e16) 18 e18) 21 e21) 22 e22) 42 e42) 43 e43) 44 e44
theorem f8GOk : GOk Try.prog f8G := (((((((GOk.nil).add e16ok (by kernel_rfl)).add e18ok (by kernel_rfl)).add e21ok (by kernel_rfl)).add e22ok (by kernel_rfl)).add e42ok (by kernel_rfl)).add e43ok (by kernel_rfl)).add e44ok (by kernel_rfl)
noncomputable def f8lE : Clean := ⟨[], [], [], [], []⟩
noncomputable def f8s0 (v0 : MT) : St := initSt f8sig.ps (v0, ())
noncomputable def f8s1 (v1_0 v1_1 : Int) (v1_2 : LI) : St := stOf [(1, xb 1)] [(1, (24, [yi v1_0, yi v1_1, .sn 3 tI v1_2 none]))] []
noncomputable def f8l1 : Clean := ⟨[1], [1], [], [], []⟩
noncomputable def f8s2 (v3 v1_0 v1_1 : Int) (v1_2 : LI) : St := stOf [(1, xb 1), (3, xi v3)] [(1, (24, [yi v1_0, yi v1_1, .sn 3 tI v1_2 none]))] []
noncomputable def f8l2 : Clean := ⟨[1, 3], [1], [], [], []⟩
noncomputable def f8s3 (v4_2 : LI) (v5 : Bool) (v1_0 v1_1 : Int) (v1_2 : LI) (v4_0 v4_1 : Int) : St := stOf [(1, xb 1), (4, xb 4), (5, xB v5)] [(1, (24, [yi v1_0, yi v1_1, .sn 3 tI v1_2 none])), (4, (30, [yi v4_0, yi v4_1, .own 20000258]))] [(20000258, (⟨3, .int .i64, v4_2, true, false⟩ : Row))]
noncomputable def f8l3 : Clean := ⟨[1, 4, 5], [1, 4], [], [], [(⟨true, 4, 2⟩, 20000258)]⟩
noncomputable def f8s4 (v4_2 v6_2 : LI) (v5 : Bool) (v1_0 v1_1 : Int) (v1_2 : LI) (v4_0 v4_1 v6_0 v6_1 : Int) : St := stOf [(1, xb 1), (4, xb 4), (5, xB v5), (6, xb 6)] [(1, (24, [yi v1_0, yi v1_1, .sn 3 tI v1_2 none])), (4, (30, [yi v4_0, yi v4_1, .own 20000258])), (6, (30, [yi v6_0, yi v6_1, .own 20000386]))] [(20000258, (⟨3, .int .i64, v4_2, true, false⟩ : Row)), (20000386, (⟨3, .int .i64, v6_2, true, false⟩ : Row))]
noncomputable def f8l4 : Clean := ⟨[1, 4, 5, 6], [1, 4, 6], [], [], [(⟨true, 4, 2⟩, 20000258), (⟨true, 6, 2⟩, 20000386)]⟩
noncomputable def f8s5 (v4_2 v6_2 v7_2 : LI) (v5 v8 : Bool) (v1_0 v1_1 : Int) (v1_2 : LI) (v4_0 v4_1 v6_0 v6_1 v7_0 v7_1 : Int) : St := stOf [(1, xb 1), (4, xb 4), (5, xB v5), (6, xb 6), (7, xb 7), (8, xB v8)] [(1, (24, [yi v1_0, yi v1_1, .sn 3 tI v1_2 none])), (4, (30, [yi v4_0, yi v4_1, .own 20000258])), (6, (30, [yi v6_0, yi v6_1, .own 20000386])), (7, (30, [yi v7_0, yi v7_1, .own 20000450]))] [(20000258, (⟨3, .int .i64, v4_2, true, false⟩ : Row)), (20000386, (⟨3, .int .i64, v6_2, true, false⟩ : Row)), (20000450, (⟨3, .int .i64, v7_2, true, false⟩ : Row))]
noncomputable def f8l5 : Clean := ⟨[1, 4, 5, 6, 7, 8], [1, 4, 6, 7], [], [], [(⟨true, 4, 2⟩, 20000258), (⟨true, 6, 2⟩, 20000386), (⟨true, 7, 2⟩, 20000450)]⟩
noncomputable def f8s6 (v4_2 v6_2 v7_2 : LI) (v5 v8 : Bool) (v9 v1_0 v1_1 : Int) (v1_2 : LI) (v4_0 v4_1 v6_0 v6_1 v7_0 v7_1 : Int) : St := stOf [(1, xb 1), (4, xb 4), (5, xB v5), (6, xb 6), (7, xb 7), (8, xB v8), (9, xi v9)] [(1, (24, [yi v1_0, yi v1_1, .sn 3 tI v1_2 none])), (4, (30, [yi v4_0, yi v4_1, .own 20000258])), (6, (30, [yi v6_0, yi v6_1, .own 20000386])), (7, (30, [yi v7_0, yi v7_1, .own 20000450]))] [(20000258, (⟨3, .int .i64, v4_2, true, false⟩ : Row)), (20000386, (⟨3, .int .i64, v6_2, true, false⟩ : Row)), (20000450, (⟨3, .int .i64, v7_2, true, false⟩ : Row))]
noncomputable def f8l6 : Clean := ⟨[1, 4, 5, 6, 7, 8, 9], [1, 4, 6, 7], [], [], [(⟨true, 4, 2⟩, 20000258), (⟨true, 6, 2⟩, 20000386), (⟨true, 7, 2⟩, 20000450)]⟩
noncomputable def f8s7 (v4_2 v7_2 : LI) (v5 v8 : Bool) (v9 v1_0 v1_1 : Int) (v1_2 : LI) (v4_0 v4_1 v7_0 v7_1 : Int) : St := stOf [(1, xb 1), (4, xb 4), (5, xB v5), (7, xb 7), (8, xB v8), (9, xi v9)] [(1, (24, [yi v1_0, yi v1_1, .sn 3 tI v1_2 none])), (4, (30, [yi v4_0, yi v4_1, .own 20000258])), (7, (30, [yi v7_0, yi v7_1, .own 20000450]))] [(20000258, (⟨3, .int .i64, v4_2, true, false⟩ : Row)), (20000450, (⟨3, .int .i64, v7_2, true, false⟩ : Row))]
noncomputable def f8l7 : Clean := ⟨[1, 4, 5, 7, 8, 9], [1, 4, 7], [], [], [(⟨true, 4, 2⟩, 20000258), (⟨true, 7, 2⟩, 20000450)]⟩
noncomputable def f8s8 (v4_2 v7_2 : LI) (v5 : Bool) (v1_0 v1_1 : Int) (v1_2 : LI) (v4_0 v4_1 v7_0 v7_1 : Int) : St := stOf [(1, xb 1), (4, xb 4), (5, xB v5), (7, xb 7)] [(1, (24, [yi v1_0, yi v1_1, .sn 3 tI v1_2 none])), (4, (30, [yi v4_0, yi v4_1, .own 20000258])), (7, (30, [yi v7_0, yi v7_1, .own 20000450]))] [(20000258, (⟨3, .int .i64, v4_2, true, false⟩ : Row)), (20000450, (⟨3, .int .i64, v7_2, true, false⟩ : Row))]
noncomputable def f8l8 : Clean := ⟨[1, 4, 5, 7], [1, 4, 7], [], [], [(⟨true, 4, 2⟩, 20000258), (⟨true, 7, 2⟩, 20000450)]⟩
noncomputable def f8s9 (v2 : Bool) : St := stOf [(2, xB v2)] [] []
noncomputable def f8l9 : Clean := ⟨[2], [], [], [], []⟩
noncomputable def f8B : Nat → Option Clean := lookL [(1000000, f8l9)]
noncomputable abbrev f8i {ρ : Type} (N : Nat) (c : Code) (p : Plan) (σ : St) (K : KT ρ) : Option ρ := iCode f8G tab f8B N c p σ K
noncomputable def f8c (n : Nat) : Code := codeN 99 (bodyOf Try.f8) n
theorem f8t1 N v0 (K : KT ρ) : f8i N (f8c 2) .n (f8s0 v0) (joinK (some f8l1) K) =
  laws_FnExactCanonicalMatrix.Z1 N v0 (fun v1_0 v1_1 v1_2 => K .nrm (f8s1 v1_0 v1_1 v1_2)) := by kernel_rfl
theorem f8t3 N v1_0 v1_1 v1_2 (K : KT ρ) : f8i N (f8c 5) .n (f8s1 v1_0 v1_1 v1_2) (joinK (some f8l2) K) =
  laws_FnExactCanonicalMatrix.Z3 N v1_0 v1_1 v1_2 (fun v3 v1_0 v1_1 v1_2 => K .nrm (f8s2 v3 v1_0 v1_1 v1_2)) := by kernel_rfl
theorem f8t5 N v3 v1_0 v1_1 v1_2 (K : KT ρ) : f8i N (f8c 11) .n (f8s2 v3 v1_0 v1_1 v1_2) (joinK (some f8l2) K) =
  laws_FnExactCanonicalMatrix.Z5 N v3 v1_0 v1_1 v1_2 (fun v3 v1_0 v1_1 v1_2 => K .nrm (f8s2 v3 v1_0 v1_1 v1_2)) := by kernel_rfl
theorem f8t7 N v3 v1_0 v1_1 v1_2 (K : KT ρ) : f8i N (f8c 23) .n (f8s2 v3 v1_0 v1_1 v1_2) (joinK (some f8l1) K) =
  laws_FnExactCanonicalMatrix.Z7 N v3 v1_0 v1_1 v1_2 (fun v1_0 v1_1 v1_2 => K .nrm (f8s1 v1_0 v1_1 v1_2)) (fun v2 => K .ret (f8s9 v2)) := by kernel_rfl
theorem f8t9 N v1_0 v1_1 v1_2 (K : KT ρ) : f8i N (f8c 47) .n (f8s1 v1_0 v1_1 v1_2) (joinK (some f8l3) K) =
  laws_FnExactCanonicalMatrix.Z9 N v1_0 v1_1 v1_2 (fun v4_2 v5 v1_0 v1_1 v1_2 v4_0 v4_1 => K .nrm (f8s3 v4_2 v5 v1_0 v1_1 v1_2 v4_0 v4_1)) := by kernel_rfl
theorem f8t11 N v4_2 v5 v1_0 v1_1 v1_2 v4_0 v4_1 (K : KT ρ) : f8i N (f8c 95) .n (f8s3 v4_2 v5 v1_0 v1_1 v1_2 v4_0 v4_1) (joinK (some f8l4) K) =
  laws_FnExactCanonicalMatrix.Z11 N v4_2 v5 v1_0 v1_1 v1_2 v4_0 v4_1 (fun v4_2 v6_2 v5 v1_0 v1_1 v1_2 v4_0 v4_1 v6_0 v6_1 => K .nrm (f8s4 v4_2 v6_2 v5 v1_0 v1_1 v1_2 v4_0 v4_1 v6_0 v6_1)) := by kernel_rfl
theorem f8t13 N v4_2 v6_2 v5 v1_0 v1_1 v1_2 v4_0 v4_1 v6_0 v6_1 (K : KT ρ) : f8i N (f8c 191) .n (f8s4 v4_2 v6_2 v5 v1_0 v1_1 v1_2 v4_0 v4_1 v6_0 v6_1) (joinK (some f8l5) K) =
  laws_FnExactCanonicalMatrix.Z13 N v4_2 v6_2 v5 v1_0 v1_1 v1_2 v4_0 v4_1 v6_0 v6_1 (fun v4_2 v6_2 v7_2 v5 v8 v1_0 v1_1 v1_2 v4_0 v4_1 v6_0 v6_1 v7_0 v7_1 => K .nrm (f8s5 v4_2 v6_2 v7_2 v5 v8 v1_0 v1_1 v1_2 v4_0 v4_1 v6_0 v6_1 v7_0 v7_1)) := by kernel_rfl
theorem f8t15 N v4_2 v6_2 v7_2 v5 v8 v1_0 v1_1 v1_2 v4_0 v4_1 v6_0 v6_1 v7_0 v7_1 (K : KT ρ) : f8i N (f8c 383) .n (f8s5 v4_2 v6_2 v7_2 v5 v8 v1_0 v1_1 v1_2 v4_0 v4_1 v6_0 v6_1 v7_0 v7_1) (joinK (some f8l5) K) =
  laws_FnExactCanonicalMatrix.Z15 N v4_2 v6_2 v7_2 v5 v8 v1_0 v1_1 v1_2 v4_0 v4_1 v6_0 v6_1 v7_0 v7_1 (fun v4_2 v6_2 v7_2 v5 v8 v1_0 v1_1 v1_2 v4_0 v4_1 v6_0 v6_1 v7_0 v7_1 => K .nrm (f8s5 v4_2 v6_2 v7_2 v5 v8 v1_0 v1_1 v1_2 v4_0 v4_1 v6_0 v6_1 v7_0 v7_1)) (fun v2 => K .ret (f8s9 v2)) := by kernel_rfl
theorem f8t17 N v4_2 v6_2 v7_2 v5 v8 v1_0 v1_1 v1_2 v4_0 v4_1 v6_0 v6_1 v7_0 v7_1 (K : KT ρ) : f8i N (f8c 767) .n (f8s5 v4_2 v6_2 v7_2 v5 v8 v1_0 v1_1 v1_2 v4_0 v4_1 v6_0 v6_1 v7_0 v7_1) (joinK (some f8l5) K) =
  laws_FnExactCanonicalMatrix.Z17 N v4_2 v6_2 v7_2 v5 v8 v1_0 v1_1 v1_2 v4_0 v4_1 v6_0 v6_1 v7_0 v7_1 (fun v4_2 v6_2 v7_2 v5 v8 v1_0 v1_1 v1_2 v4_0 v4_1 v6_0 v6_1 v7_0 v7_1 => K .nrm (f8s5 v4_2 v6_2 v7_2 v5 v8 v1_0 v1_1 v1_2 v4_0 v4_1 v6_0 v6_1 v7_0 v7_1)) (fun v2 => K .ret (f8s9 v2)) := by kernel_rfl
theorem f8t19 N v4_2 v6_2 v7_2 v5 v8 v1_0 v1_1 v1_2 v4_0 v4_1 v6_0 v6_1 v7_0 v7_1 (K : KT ρ) : f8i N (f8c 1535) .n (f8s5 v4_2 v6_2 v7_2 v5 v8 v1_0 v1_1 v1_2 v4_0 v4_1 v6_0 v6_1 v7_0 v7_1) (joinK (some f8l6) K) =
  laws_FnExactCanonicalMatrix.Z19 N v4_2 v6_2 v7_2 v5 v8 v1_0 v1_1 v1_2 v4_0 v4_1 v6_0 v6_1 v7_0 v7_1 (fun v4_2 v6_2 v7_2 v5 v8 v9 v1_0 v1_1 v1_2 v4_0 v4_1 v6_0 v6_1 v7_0 v7_1 => K .nrm (f8s6 v4_2 v6_2 v7_2 v5 v8 v9 v1_0 v1_1 v1_2 v4_0 v4_1 v6_0 v6_1 v7_0 v7_1)) := by kernel_rfl
theorem f8t21 N v4_2 v6_2 v7_2 v5 v8 v9 v1_0 v1_1 v1_2 v4_0 v4_1 v6_0 v6_1 v7_0 v7_1 (K : KT ρ) : f8i N (f8c 3071) .n (f8s6 v4_2 v6_2 v7_2 v5 v8 v9 v1_0 v1_1 v1_2 v4_0 v4_1 v6_0 v6_1 v7_0 v7_1) (joinK (some f8l7) K) =
  laws_FnExactCanonicalMatrix.Z21 N v4_2 v6_2 v7_2 v5 v8 v9 v1_0 v1_1 v1_2 v4_0 v4_1 v6_0 v6_1 v7_0 v7_1 (fun v4_2 v7_2 v5 v8 v9 v1_0 v1_1 v1_2 v4_0 v4_1 v7_0 v7_1 => K .nrm (f8s7 v4_2 v7_2 v5 v8 v9 v1_0 v1_1 v1_2 v4_0 v4_1 v7_0 v7_1)) := by kernel_rfl
theorem f8t23 N v4_2 v7_2 v5 v8 v9 v1_0 v1_1 v1_2 v4_0 v4_1 v7_0 v7_1 (K : KT ρ) : f8i N (f8c 6143) .n (f8s7 v4_2 v7_2 v5 v8 v9 v1_0 v1_1 v1_2 v4_0 v4_1 v7_0 v7_1) (joinK (some f8l8) K) =
  laws_FnExactCanonicalMatrix.Z23 N v4_2 v7_2 v5 v8 v9 v1_0 v1_1 v1_2 v4_0 v4_1 v7_0 v7_1 (fun v4_2 v7_2 v5 v1_0 v1_1 v1_2 v4_0 v4_1 v7_0 v7_1 => K .nrm (f8s8 v4_2 v7_2 v5 v1_0 v1_1 v1_2 v4_0 v4_1 v7_0 v7_1)) (fun v2 => K .ret (f8s9 v2)) := by kernel_rfl
theorem f8t24 N v4_2 v7_2 v5 v1_0 v1_1 v1_2 v4_0 v4_1 v7_0 v7_1 (K : KT ρ) : f8i N (f8c 8191) .n (f8s8 v4_2 v7_2 v5 v1_0 v1_1 v1_2 v4_0 v4_1 v7_0 v7_1) (joinK (some f8lE) K) =
  laws_FnExactCanonicalMatrix.Z24 N v4_2 v7_2 v5 v1_0 v1_1 v1_2 v4_0 v4_1 v7_0 v7_1 (fun v2 => K .ret (f8s9 v2)) := by kernel_rfl
noncomputable def f8p22 : Plan := .mk (some f8l8) none .n .n
theorem f8t22 N v4_2 v7_2 v5 v8 v9 v1_0 v1_1 v1_2 v4_0 v4_1 v7_0 v7_1 (K : KT ρ) : f8i N (f8c 4095) f8p22 (f8s7 v4_2 v7_2 v5 v8 v9 v1_0 v1_1 v1_2 v4_0 v4_1 v7_0 v7_1) (joinK (some f8lE) K) =
  laws_FnExactCanonicalMatrix.Z22 N v4_2 v7_2 v5 v8 v9 v1_0 v1_1 v1_2 v4_0 v4_1 v7_0 v7_1 (fun v2 => K .ret (f8s9 v2)) :=
 viaSeqS (fun k => laws_FnExactCanonicalMatrix.Z23 N v4_2 v7_2 v5 v8 v9 v1_0 v1_1 v1_2 v4_0 v4_1 v7_0 v7_1 k (fun v2 => K .ret (f8s9 v2))) (by kernel_rfl) (f8t23 N (K := seqK (fun σ => f8i N (f8c 8191) .n σ (joinK (some f8lE) K)) (joinK (some f8lE) K)) ..) (fx10 fun v4_2 v7_2 v5 v1_0 v1_1 v1_2 v4_0 v4_1 v7_0 v7_1 => f8t24 N v4_2 v7_2 v5 v1_0 v1_1 v1_2 v4_0 v4_1 v7_0 v7_1 K) (by kernel_rfl)
noncomputable def f8p20 : Plan := .mk (some f8l7) none .n f8p22
theorem f8t20 N v4_2 v6_2 v7_2 v5 v8 v9 v1_0 v1_1 v1_2 v4_0 v4_1 v6_0 v6_1 v7_0 v7_1 (K : KT ρ) : f8i N (f8c 2047) f8p20 (f8s6 v4_2 v6_2 v7_2 v5 v8 v9 v1_0 v1_1 v1_2 v4_0 v4_1 v6_0 v6_1 v7_0 v7_1) (joinK (some f8lE) K) =
  laws_FnExactCanonicalMatrix.Z20 N v4_2 v6_2 v7_2 v5 v8 v9 v1_0 v1_1 v1_2 v4_0 v4_1 v6_0 v6_1 v7_0 v7_1 (fun v2 => K .ret (f8s9 v2)) :=
 viaSeqS (fun k => laws_FnExactCanonicalMatrix.Z21 N v4_2 v6_2 v7_2 v5 v8 v9 v1_0 v1_1 v1_2 v4_0 v4_1 v6_0 v6_1 v7_0 v7_1 k) (by kernel_rfl) (f8t21 N (K := seqK (fun σ => f8i N (f8c 4095) f8p22 σ (joinK (some f8lE) K)) (joinK (some f8lE) K)) ..) (fx12 fun v4_2 v7_2 v5 v8 v9 v1_0 v1_1 v1_2 v4_0 v4_1 v7_0 v7_1 => f8t22 N v4_2 v7_2 v5 v8 v9 v1_0 v1_1 v1_2 v4_0 v4_1 v7_0 v7_1 K) (by kernel_rfl)
noncomputable def f8p18 : Plan := .mk (some f8l6) none .n f8p20
theorem f8t18 N v4_2 v6_2 v7_2 v5 v8 v1_0 v1_1 v1_2 v4_0 v4_1 v6_0 v6_1 v7_0 v7_1 (K : KT ρ) : f8i N (f8c 1023) f8p18 (f8s5 v4_2 v6_2 v7_2 v5 v8 v1_0 v1_1 v1_2 v4_0 v4_1 v6_0 v6_1 v7_0 v7_1) (joinK (some f8lE) K) =
  laws_FnExactCanonicalMatrix.Z18 N v4_2 v6_2 v7_2 v5 v8 v1_0 v1_1 v1_2 v4_0 v4_1 v6_0 v6_1 v7_0 v7_1 (fun v2 => K .ret (f8s9 v2)) :=
 viaSeqS (fun k => laws_FnExactCanonicalMatrix.Z19 N v4_2 v6_2 v7_2 v5 v8 v1_0 v1_1 v1_2 v4_0 v4_1 v6_0 v6_1 v7_0 v7_1 k) (by kernel_rfl) (f8t19 N (K := seqK (fun σ => f8i N (f8c 2047) f8p20 σ (joinK (some f8lE) K)) (joinK (some f8lE) K)) ..) (fx15 fun v4_2 v6_2 v7_2 v5 v8 v9 v1_0 v1_1 v1_2 v4_0 v4_1 v6_0 v6_1 v7_0 v7_1 => f8t20 N v4_2 v6_2 v7_2 v5 v8 v9 v1_0 v1_1 v1_2 v4_0 v4_1 v6_0 v6_1 v7_0 v7_1 K) (by kernel_rfl)
noncomputable def f8p16 : Plan := .mk (some f8l5) none .n f8p18
theorem f8t16 N v4_2 v6_2 v7_2 v5 v8 v1_0 v1_1 v1_2 v4_0 v4_1 v6_0 v6_1 v7_0 v7_1 (K : KT ρ) : f8i N (f8c 511) f8p16 (f8s5 v4_2 v6_2 v7_2 v5 v8 v1_0 v1_1 v1_2 v4_0 v4_1 v6_0 v6_1 v7_0 v7_1) (joinK (some f8lE) K) =
  laws_FnExactCanonicalMatrix.Z16 N v4_2 v6_2 v7_2 v5 v8 v1_0 v1_1 v1_2 v4_0 v4_1 v6_0 v6_1 v7_0 v7_1 (fun v2 => K .ret (f8s9 v2)) :=
 viaSeqS (fun k => laws_FnExactCanonicalMatrix.Z17 N v4_2 v6_2 v7_2 v5 v8 v1_0 v1_1 v1_2 v4_0 v4_1 v6_0 v6_1 v7_0 v7_1 k (fun v2 => K .ret (f8s9 v2))) (by kernel_rfl) (f8t17 N (K := seqK (fun σ => f8i N (f8c 1023) f8p18 σ (joinK (some f8lE) K)) (joinK (some f8lE) K)) ..) (fx14 fun v4_2 v6_2 v7_2 v5 v8 v1_0 v1_1 v1_2 v4_0 v4_1 v6_0 v6_1 v7_0 v7_1 => f8t18 N v4_2 v6_2 v7_2 v5 v8 v1_0 v1_1 v1_2 v4_0 v4_1 v6_0 v6_1 v7_0 v7_1 K) (by kernel_rfl)
noncomputable def f8p14 : Plan := .mk (some f8l5) none .n f8p16
theorem f8t14 N v4_2 v6_2 v7_2 v5 v8 v1_0 v1_1 v1_2 v4_0 v4_1 v6_0 v6_1 v7_0 v7_1 (K : KT ρ) : f8i N (f8c 255) f8p14 (f8s5 v4_2 v6_2 v7_2 v5 v8 v1_0 v1_1 v1_2 v4_0 v4_1 v6_0 v6_1 v7_0 v7_1) (joinK (some f8lE) K) =
  laws_FnExactCanonicalMatrix.Z14 N v4_2 v6_2 v7_2 v5 v8 v1_0 v1_1 v1_2 v4_0 v4_1 v6_0 v6_1 v7_0 v7_1 (fun v2 => K .ret (f8s9 v2)) :=
 viaSeqS (fun k => laws_FnExactCanonicalMatrix.Z15 N v4_2 v6_2 v7_2 v5 v8 v1_0 v1_1 v1_2 v4_0 v4_1 v6_0 v6_1 v7_0 v7_1 k (fun v2 => K .ret (f8s9 v2))) (by kernel_rfl) (f8t15 N (K := seqK (fun σ => f8i N (f8c 511) f8p16 σ (joinK (some f8lE) K)) (joinK (some f8lE) K)) ..) (fx14 fun v4_2 v6_2 v7_2 v5 v8 v1_0 v1_1 v1_2 v4_0 v4_1 v6_0 v6_1 v7_0 v7_1 => f8t16 N v4_2 v6_2 v7_2 v5 v8 v1_0 v1_1 v1_2 v4_0 v4_1 v6_0 v6_1 v7_0 v7_1 K) (by kernel_rfl)
noncomputable def f8p12 : Plan := .mk (some f8l5) none .n f8p14
theorem f8t12 N v4_2 v6_2 v5 v1_0 v1_1 v1_2 v4_0 v4_1 v6_0 v6_1 (K : KT ρ) : f8i N (f8c 127) f8p12 (f8s4 v4_2 v6_2 v5 v1_0 v1_1 v1_2 v4_0 v4_1 v6_0 v6_1) (joinK (some f8lE) K) =
  laws_FnExactCanonicalMatrix.Z12 N v4_2 v6_2 v5 v1_0 v1_1 v1_2 v4_0 v4_1 v6_0 v6_1 (fun v2 => K .ret (f8s9 v2)) :=
 viaSeqS (fun k => laws_FnExactCanonicalMatrix.Z13 N v4_2 v6_2 v5 v1_0 v1_1 v1_2 v4_0 v4_1 v6_0 v6_1 k) (by kernel_rfl) (f8t13 N (K := seqK (fun σ => f8i N (f8c 255) f8p14 σ (joinK (some f8lE) K)) (joinK (some f8lE) K)) ..) (fx14 fun v4_2 v6_2 v7_2 v5 v8 v1_0 v1_1 v1_2 v4_0 v4_1 v6_0 v6_1 v7_0 v7_1 => f8t14 N v4_2 v6_2 v7_2 v5 v8 v1_0 v1_1 v1_2 v4_0 v4_1 v6_0 v6_1 v7_0 v7_1 K) (by kernel_rfl)
noncomputable def f8p10 : Plan := .mk (some f8l4) none .n f8p12
theorem f8t10 N v4_2 v5 v1_0 v1_1 v1_2 v4_0 v4_1 (K : KT ρ) : f8i N (f8c 63) f8p10 (f8s3 v4_2 v5 v1_0 v1_1 v1_2 v4_0 v4_1) (joinK (some f8lE) K) =
  laws_FnExactCanonicalMatrix.Z10 N v4_2 v5 v1_0 v1_1 v1_2 v4_0 v4_1 (fun v2 => K .ret (f8s9 v2)) :=
 viaSeqS (fun k => laws_FnExactCanonicalMatrix.Z11 N v4_2 v5 v1_0 v1_1 v1_2 v4_0 v4_1 k) (by kernel_rfl) (f8t11 N (K := seqK (fun σ => f8i N (f8c 127) f8p12 σ (joinK (some f8lE) K)) (joinK (some f8lE) K)) ..) (fx10 fun v4_2 v6_2 v5 v1_0 v1_1 v1_2 v4_0 v4_1 v6_0 v6_1 => f8t12 N v4_2 v6_2 v5 v1_0 v1_1 v1_2 v4_0 v4_1 v6_0 v6_1 K) (by kernel_rfl)
noncomputable def f8p8 : Plan := .mk (some f8l3) none .n f8p10
theorem f8t8 N v1_0 v1_1 v1_2 (K : KT ρ) : f8i N (f8c 31) f8p8 (f8s1 v1_0 v1_1 v1_2) (joinK (some f8lE) K) =
  laws_FnExactCanonicalMatrix.Z8 N v1_0 v1_1 v1_2 (fun v2 => K .ret (f8s9 v2)) :=
 viaSeqS (fun k => laws_FnExactCanonicalMatrix.Z9 N v1_0 v1_1 v1_2 k) (by kernel_rfl) (f8t9 N (K := seqK (fun σ => f8i N (f8c 63) f8p10 σ (joinK (some f8lE) K)) (joinK (some f8lE) K)) ..) (fx7 fun v4_2 v5 v1_0 v1_1 v1_2 v4_0 v4_1 => f8t10 N v4_2 v5 v1_0 v1_1 v1_2 v4_0 v4_1 K) (by kernel_rfl)
noncomputable def f8p6 : Plan := .mk (some f8l1) none .n f8p8
theorem f8t6 N v3 v1_0 v1_1 v1_2 (K : KT ρ) : f8i N (f8c 15) f8p6 (f8s2 v3 v1_0 v1_1 v1_2) (joinK (some f8lE) K) =
  laws_FnExactCanonicalMatrix.Z6 N v3 v1_0 v1_1 v1_2 (fun v2 => K .ret (f8s9 v2)) :=
 viaSeqS (fun k => laws_FnExactCanonicalMatrix.Z7 N v3 v1_0 v1_1 v1_2 k (fun v2 => K .ret (f8s9 v2))) (by kernel_rfl) (f8t7 N (K := seqK (fun σ => f8i N (f8c 31) f8p8 σ (joinK (some f8lE) K)) (joinK (some f8lE) K)) ..) (fx3 fun v1_0 v1_1 v1_2 => f8t8 N v1_0 v1_1 v1_2 K) (by kernel_rfl)
noncomputable def f8p4 : Plan := .mk (some f8l2) none .n f8p6
theorem f8t4 N v3 v1_0 v1_1 v1_2 (K : KT ρ) : f8i N (f8c 7) f8p4 (f8s2 v3 v1_0 v1_1 v1_2) (joinK (some f8lE) K) =
  laws_FnExactCanonicalMatrix.Z4 N v3 v1_0 v1_1 v1_2 (fun v2 => K .ret (f8s9 v2)) :=
 viaSeqS (fun k => laws_FnExactCanonicalMatrix.Z5 N v3 v1_0 v1_1 v1_2 k) (by kernel_rfl) (f8t5 N (K := seqK (fun σ => f8i N (f8c 15) f8p6 σ (joinK (some f8lE) K)) (joinK (some f8lE) K)) ..) (fx4 fun v3 v1_0 v1_1 v1_2 => f8t6 N v3 v1_0 v1_1 v1_2 K) (by kernel_rfl)
noncomputable def f8p2 : Plan := .mk (some f8l2) none .n f8p4
theorem f8t2 N v1_0 v1_1 v1_2 (K : KT ρ) : f8i N (f8c 3) f8p2 (f8s1 v1_0 v1_1 v1_2) (joinK (some f8lE) K) =
  laws_FnExactCanonicalMatrix.Z2 N v1_0 v1_1 v1_2 (fun v2 => K .ret (f8s9 v2)) :=
 viaSeqS (fun k => laws_FnExactCanonicalMatrix.Z3 N v1_0 v1_1 v1_2 k) (by kernel_rfl) (f8t3 N (K := seqK (fun σ => f8i N (f8c 7) f8p4 σ (joinK (some f8lE) K)) (joinK (some f8lE) K)) ..) (fx4 fun v3 v1_0 v1_1 v1_2 => f8t4 N v3 v1_0 v1_1 v1_2 K) (by kernel_rfl)
noncomputable def f8p0 : Plan := .mk (some f8l1) none .n f8p2
theorem f8t0 N v0 (K : KT ρ) : f8i N (f8c 1) f8p0 (f8s0 v0) (joinK (some f8lE) K) =
  laws_FnExactCanonicalMatrix.Z0 N v0 (fun v2 => K .ret (f8s9 v2)) :=
 viaSeqS (fun k => laws_FnExactCanonicalMatrix.Z1 N v0 k) (by kernel_rfl) (f8t1 N (K := seqK (fun σ => f8i N (f8c 3) f8p2 σ (joinK (some f8lE) K)) (joinK (some f8lE) K)) ..) (fx3 fun v1_0 v1_1 v1_2 => f8t2 N v1_0 v1_1 v1_2 K) (by kernel_rfl)
theorem f8m (N : Nat) (v0 : MT) : f8i N (f8c 1) f8p0 (f8s0 v0) (joinK (some f8lE) (finK tab f8sig Try.f8.results.toList)) = laws_FnExactCanonicalMatrix.Z0 N v0 (fun v2 => some ((), (v2, ()))) :=
  (f8t0 N v0 (finK tab f8sig Try.f8.results.toList)).trans (by kernel_rfl)
theorem f8ok (h : laws_FnExactCanonicalMatrix.Spec) : EntryOk Try.prog 8 e8 :=
  entry_of_code (sig := f8sig) (c := (f8c 1)) (pl := f8p0) (je := (some f8lE)) (B := f8B) Try.func8 (by kernel_rfl) (by kernel_rfl) (by kernel_rfl) tabOk f8GOk (by kernel_rfl) (by kernel_rfl) (by kernel_rfl) (by kernel_rfl) fun X hb hp => by
    obtain ⟨v0, _⟩ := X
    obtain ⟨N, h⟩ := h v0 hb.1
    exact ⟨N, (f8m N v0).trans (h N (Nat.le_refl N))⟩
theorem e8ok : EntryOk Try.prog 8 e8 := f8ok laws_FnExactCanonicalMatrix.ok
end Go.Fw
