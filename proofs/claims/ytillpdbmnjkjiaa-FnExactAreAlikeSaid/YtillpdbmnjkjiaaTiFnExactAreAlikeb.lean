/- The ties: the program's text comes to the plain functions. Nothing is assumed. -/
import Derived.Test.YtillpdbmnjkjiaaPuFnExactAreAlikea
import Derived.Test.YtillpdbmnjkjiaaTiFnExactAreAlikea
import Derived.Test.YtillpdbmnjkjiaaPuFnExactAreAlikeb
set_option linter.unusedVariables false
set_option linter.unusedSimpArgs false
set_option maxRecDepth 100000
namespace Go.Fw
variable {ρ : Type}
open Go.Proofs
noncomputable def f86sig : Sig := ⟨[⟨.int .i64, false, false⟩], [⟨.sl 22 (.sl 3 (.int .i64)), false, false⟩]⟩
noncomputable def e86 : Entry := ⟨f86sig, (some fun X => impl_orders.P X.1), fun X => ((), ((impl_orders.g X.1), ()))⟩
noncomputable def f86G : Gm := addM (addG emptyG 91 e91) 113 e113
theorem f86GOk : GOk Try.prog f86G := ((GOk.nil).add e91ok (by kernel_rfl)).addM e113ok (by kernel_rfl)
noncomputable def f86lE : Clean := ⟨[], [], [], [], []⟩
noncomputable def f86s0 (v0 : Int) : St := initSt f86sig.ps (v0, ())
noncomputable def f86s1 (v0 : Int) : St := stOf [(0, xi v0)] [] []
noncomputable def f86l1 : Clean := ⟨[0], [], [], [], []⟩
noncomputable def f86s2 (v3 : LL) (v0 : Int) : St := stOf [(0, xi v0), (3, xo 1000192)] [] [(1000192, (⟨22, .sl 3 tI, v3, true, false⟩ : Row))]
noncomputable def f86l2 : Clean := ⟨[0, 3], [], [], [], [(⟨false, 3, 0⟩, 1000192)]⟩
noncomputable def f86s3 (v3 : LL) (v0 v4 : Int) : St := stOf [(0, xi v0), (3, xo 1000192), (4, xi v4)] [] [(1000192, (⟨22, .sl 3 tI, v3, true, false⟩ : Row))]
noncomputable def f86l3 : Clean := ⟨[0, 3, 4], [], [], [], [(⟨false, 3, 0⟩, 1000192)]⟩
noncomputable def f86s4 (v3 : LL) (v0 v4 : Int) : St := stOf [(0, xi v0), (3, xo 1000192), (4, xi v4), (5, .c (.nil))] [] [(1000192, (⟨22, .sl 3 tI, v3, true, false⟩ : Row))]
noncomputable def f86l4 : Clean := ⟨[0, 3, 4, 5], [], [], [], [(⟨false, 3, 0⟩, 1000192)]⟩
noncomputable def f86s5 (v15 : LL) (v0 v4 v16 v17 : Int) : St := stOf [(0, xi v0), (4, xi v4), (5, .c (.nil)), (15, xo 1000960), (16, xi v16), (17, xi v17)] [] [(1000960, (⟨22, .sl 3 tI, v15, true, false⟩ : Row))]
noncomputable def f86l5 : Clean := ⟨[0, 4, 5, 15, 16, 17], [], [], [], [(⟨false, 15, 0⟩, 1000960)]⟩
noncomputable def f86s10 (v5 v15 : LL) (v0 v4 v16 v17 : Int) : St := stOf [(0, xi v0), (4, xi v4), (5, xo 1000320), (15, xo 1000960), (16, xi v16), (17, xi v17)] [] [(1000320, (⟨22, .sl 3 tI, v5, true, false⟩ : Row)), (1000960, (⟨22, .sl 3 tI, v15, true, false⟩ : Row))]
noncomputable def f86l10 : Clean := ⟨[0, 4, 5, 15, 16, 17], [], [], [], [(⟨false, 5, 0⟩, 1000320), (⟨false, 15, 0⟩, 1000960)]⟩
noncomputable def f86s11 (v5 v15 : LL) (v0 v4 v16 v17 : Int) : St := stOf [(0, xi v0), (4, xi v4), (5, xo 1000320), (15, xo 1000960), (16, xi v16), (17, xi v17)] [] [(1000320, (⟨22, .sl 3 tI, v5, true, false⟩ : Row)), (1000960, (⟨22, .sl 3 tI, v15, true, false⟩ : Row))]
noncomputable def f86l11 : Clean := ⟨[0, 4, 5, 15, 16, 17], [], [⟨⟨false, 5, 0⟩, 30000000, 22, .sl 3 (.int .i64), true⟩], [], [(⟨false, 5, 0⟩, 1000320), (⟨false, 15, 0⟩, 1000960)]⟩
noncomputable def f86s12 (v5 v15 : LL) (v0 v4 v16 v17 : Int) (v18 : Bool) : St := stOf [(0, xi v0), (4, xi v4), (5, xo 1000320), (15, xo 1000960), (16, xi v16), (17, xi v17), (18, xB v18)] [] [(1000320, (⟨22, .sl 3 tI, v5, true, false⟩ : Row)), (1000960, (⟨22, .sl 3 tI, v15, true, false⟩ : Row))]
noncomputable def f86l12 : Clean := ⟨[0, 4, 5, 15, 16, 17, 18], [], [], [], [(⟨false, 5, 0⟩, 1000320), (⟨false, 15, 0⟩, 1000960)]⟩
noncomputable def f86s13 (v5 v15 : LL) (v0 v4 : Int) (v7 : LI) (v16 v17 : Int) : St := stOf [(0, xi v0), (4, xi v4), (5, xo 1000320), (7, .c (.sn 3 tI v7 (some 1000960))), (15, xo 1000960), (16, xi v16), (17, xi v17)] [] [(1000320, (⟨22, .sl 3 tI, v5, true, false⟩ : Row)), (1000960, (⟨22, .sl 3 tI, v15, true, false⟩ : Row))]
noncomputable def f86l13 : Clean := ⟨[0, 4, 5, 7, 15, 16, 17], [], [], [], [(⟨false, 5, 0⟩, 1000320), (⟨false, 15, 0⟩, 1000960)]⟩
noncomputable def f86s14 (v5 v15 : LL) (v0 v4 : Int) (v7 : LI) (v8 v16 v17 : Int) : St := stOf [(0, xi v0), (4, xi v4), (5, xo 1000320), (7, .c (.sn 3 tI v7 (some 1000960))), (8, xi v8), (15, xo 1000960), (16, xi v16), (17, xi v17)] [] [(1000320, (⟨22, .sl 3 tI, v5, true, false⟩ : Row)), (1000960, (⟨22, .sl 3 tI, v15, true, false⟩ : Row))]
noncomputable def f86l14 : Clean := ⟨[0, 4, 5, 7, 8, 15, 16, 17], [], [], [], [(⟨false, 5, 0⟩, 1000320), (⟨false, 15, 0⟩, 1000960)]⟩
noncomputable def f86s15 (v5 : LL) (v0 v4 : Int) : St := stOf [(0, xi v0), (4, xi v4), (5, xo 1000320)] [] [(1000320, (⟨22, .sl 3 tI, v5, true, false⟩ : Row))]
noncomputable def f86l15 : Clean := ⟨[0, 4, 5], [], [], [], [(⟨false, 5, 0⟩, 1000320)]⟩
noncomputable def f86s16 (v3 : LL) : St := stOf [(3, xo 1000192)] [] [(1000192, (⟨22, .sl 3 tI, v3, true, false⟩ : Row))]
noncomputable def f86l16 : Clean := ⟨[3], [], [], [], [(⟨false, 3, 0⟩, 1000192)]⟩
noncomputable def f86s17 (v2 : LL) : St := stOf [(2, xo 1000128)] [] [(1000128, (⟨22, .sl 3 tI, v2, true, false⟩ : Row))]
noncomputable def f86l17 : Clean := ⟨[2], [], [], [], [(⟨false, 2, 0⟩, 1000128)]⟩
noncomputable def f86B : Nat → Option Clean := lookL [(4, f86l10), (3, f86l10), (2, f86l15), (1, f86l3), (0, f86l16), (1000000, f86l17)]
noncomputable abbrev f86i {ρ : Type} (N : Nat) (c : Code) (p : Plan) (σ : St) (K : KT ρ) : Option ρ := iCode f86G tab f86B N c p σ K
noncomputable def f86c (n : Nat) : Code := codeN 99 (bodyOf Try.f86) n
theorem f86t1 N v0 (K : KT ρ) : f86i N (f86c 2) .n (f86s0 v0) (joinK (some f86l1) K) =
  impl_orders.Z1 N v0 (fun v0 => K .nrm (f86s1 v0)) := by kernel_rfl
theorem f86t3 N v0 (K : KT ρ) : f86i N (f86c 5) .n (f86s1 v0) (joinK (some f86l2) K) =
  impl_orders.Z3 N v0 (fun v3 v0 => K .nrm (f86s2 v3 v0)) := by kernel_rfl
theorem f86t6 N v3 v0 (K : KT ρ) : f86i N (f86c 19) .n (f86s2 v3 v0) (joinK (some f86l3) K) =
  impl_orders.Z6 N v3 v0 (fun v3 v0 v4 => K .nrm (f86s3 v3 v0 v4)) := by kernel_rfl
theorem f86t10 N v3 v0 v4 (K : KT ρ) : f86i N (f86c 139) .n (f86s3 v3 v0 v4) (joinK (some f86l3) K) =
  impl_orders.Z10 N v3 v0 v4 (fun v3 v0 v4 => K .nrm (f86s3 v3 v0 v4)) (fun v3 => K (.exit 0) (f86s16 v3)) := by kernel_rfl
theorem f86t14 N v3 v0 v4 (K : KT ρ) : f86i N (f86c 1099) .n (f86s3 v3 v0 v4) (joinK (some f86l4) K) =
  impl_orders.Z14 N v3 v0 v4 (fun v3 v0 v4 => K .nrm (f86s4 v3 v0 v4)) := by kernel_rfl
theorem f86t17 N v3 v0 v4 (K : KT ρ) : f86i N (f86c 4683) .n (f86s4 v3 v0 v4) (joinK (some f86l5) K) =
  impl_orders.Z17 N v3 v0 v4 (fun v15 v0 v4 v16 v17 => K .nrm (f86s5 v15 v0 v4 v16 v17)) := by kernel_rfl
theorem f86t21 N v5 v15 v0 v4 v16 v17 (K : KT ρ) : f86i N (f86c 35403) .n (f86s11 v5 v15 v0 v4 v16 v17) (joinK (some f86l12) K) =
  impl_orders.Z21 N v5 v15 v0 v4 v16 v17 (fun v5 v15 v0 v4 v16 v17 v18 => K .nrm (f86s12 v5 v15 v0 v4 v16 v17 v18)) := by kernel_rfl
theorem f86t23 N v5 v15 v0 v4 v16 v17 v18 (K : KT ρ) : f86i N (f86c 84555) .n (f86s12 v5 v15 v0 v4 v16 v17 v18) (joinK (some f86l10) K) =
  impl_orders.Z23 N v5 v15 v0 v4 v16 v17 v18 (fun v5 v15 v0 v4 v16 v17 => K .nrm (f86s10 v5 v15 v0 v4 v16 v17)) (fun v5 v0 v4 => K (.exit 2) (f86s15 v5 v0 v4)) := by kernel_rfl
theorem f86t27 N v5 v15 v0 v4 v16 v17 (K : KT ρ) : f86i N (f86c 576075) .n (f86s10 v5 v15 v0 v4 v16 v17) (joinK (some f86l13) K) =
  impl_orders.Z27 N v5 v15 v0 v4 v16 v17 (fun v5 v15 v0 v4 v7 v16 v17 => K .nrm (f86s13 v5 v15 v0 v4 v7 v16 v17)) := by kernel_rfl
theorem f86t29 N v5 v15 v0 v4 v7 v16 v17 (K : KT ρ) : f86i N (f86c 1362507) .n (f86s13 v5 v15 v0 v4 v7 v16 v17) (joinK (some f86l14) K) =
  impl_orders.Z29 N v5 v15 v0 v4 v7 v16 v17 (fun v5 v15 v0 v4 v7 v8 v16 v17 => K .nrm (f86s14 v5 v15 v0 v4 v7 v8 v16 v17)) := by kernel_rfl
theorem f86t32 N v5 v15 v0 v4 v7 v8 v16 v17 (K : KT ρ) : f86i N (f86c 5032523) .n (f86s14 v5 v15 v0 v4 v7 v8 v16 v17) (joinK (some f86l14) K) =
  impl_orders.Z32 N v5 v15 v0 v4 v7 v8 v16 v17 (fun v5 v15 v0 v4 v7 v8 v16 v17 => K .nrm (f86s14 v5 v15 v0 v4 v7 v8 v16 v17)) (fun v5 v15 v0 v4 v16 v17 => K (.exit 4) (f86s10 v5 v15 v0 v4 v16 v17)) := by kernel_rfl
noncomputable def f86p31 : Plan := .mk none (some f86l14) .n .n
noncomputable abbrev f86w31 {ρ : Type} (N M : Nat) (σ : St) (K : KT ρ) : Option ρ := loopC (fun σ K => f86i N (f86c 5032523) .n σ K) f86l14 M σ K
theorem f86t31L {ρ : Type} (N : Nat) (K : KT ρ) : ∀ (M : Nat) (v5 v15 : LL) (v0 v4 : Int) (v7 : LI) (v8 v16 v17 : Int), f86w31 N M (f86s14 v5 v15 v0 v4 v7 v8 v16 v17) K =
  impl_orders.Z31L N (fun v5 v15 v0 v4 v16 v17 => K (.exit 4) (f86s10 v5 v15 v0 v4 v16 v17)) M v5 v15 v0 v4 v7 v8 v16 v17
  | 0, _, _, _, _, _, _, _, _ => rfl
  | M + 1, v5, v15, v0, v4, v7, v8, v16, v17 => viaRoundS (fun k => impl_orders.Z32 N v5 v15 v0 v4 v7 v8 v16 v17 k (fun v5 v15 v0 v4 v16 v17 => K (.exit 4) (f86s10 v5 v15 v0 v4 v16 v17))) (f86t32 N (K := seqK (fun σ => f86w31 N M σ K) K) ..) (fx8 fun v5 v15 v0 v4 v7 v8 v16 v17 => f86t31L N K M v5 v15 v0 v4 v7 v8 v16 v17) (by kernel_rfl)
theorem f86t31 N v5 v15 v0 v4 v7 v8 v16 v17 (K : KT ρ) : f86i N (f86c 2935371) f86p31 (f86s14 v5 v15 v0 v4 v7 v8 v16 v17) (joinK (some f86l10) K) =
  impl_orders.Z31 N v5 v15 v0 v4 v7 v8 v16 v17 (fun v5 v15 v0 v4 v16 v17 => K (.exit 4) (f86s10 v5 v15 v0 v4 v16 v17)) :=
 viaLoopS (by kernel_rfl) (f86t31L N (joinK (some f86l10) K) N v5 v15 v0 v4 v7 v8 v16 v17) (by kernel_rfl)
noncomputable def f86p30 : Plan := .mk (some f86l10) none f86p31 .n
theorem f86t30 N v5 v15 v0 v4 v7 v8 v16 v17 (K : KT ρ) : f86i N (f86c 1886795) f86p30 (f86s14 v5 v15 v0 v4 v7 v8 v16 v17) (joinK (some f86l10) K) =
  impl_orders.Z30 N v5 v15 v0 v4 v7 v8 v16 v17 (fun v5 v15 v0 v4 v16 v17 => K .nrm (f86s10 v5 v15 v0 v4 v16 v17)) :=
 viaBlockS (by kernel_rfl) (f86t31 N (K := blockK 4 (joinK (some f86l10) K)) ..) (by kernel_rfl)
noncomputable def f86p28 : Plan := .mk (some f86l14) none .n f86p30
theorem f86t28 N v5 v15 v0 v4 v7 v16 v17 (K : KT ρ) : f86i N (f86c 838219) f86p28 (f86s13 v5 v15 v0 v4 v7 v16 v17) (joinK (some f86l10) K) =
  impl_orders.Z28 N v5 v15 v0 v4 v7 v16 v17 (fun v5 v15 v0 v4 v16 v17 => K .nrm (f86s10 v5 v15 v0 v4 v16 v17)) :=
 viaSeqS (fun k => impl_orders.Z29 N v5 v15 v0 v4 v7 v16 v17 k) (by kernel_rfl) (f86t29 N (K := seqK (fun σ => f86i N (f86c 1886795) f86p30 σ (joinK (some f86l10) K)) (joinK (some f86l10) K)) ..) (fx8 fun v5 v15 v0 v4 v7 v8 v16 v17 => f86t30 N v5 v15 v0 v4 v7 v8 v16 v17 K) (by kernel_rfl)
noncomputable def f86p26 : Plan := .mk (some f86l13) none .n f86p28
theorem f86t26 N v5 v15 v0 v4 v16 v17 (K : KT ρ) : f86i N (f86c 313931) f86p26 (f86s10 v5 v15 v0 v4 v16 v17) (joinK (some f86l10) K) =
  impl_orders.Z26 N v5 v15 v0 v4 v16 v17 (fun v5 v15 v0 v4 v16 v17 => K .nrm (f86s10 v5 v15 v0 v4 v16 v17)) :=
 viaSeqS (fun k => impl_orders.Z27 N v5 v15 v0 v4 v16 v17 k) (by kernel_rfl) (f86t27 N (K := seqK (fun σ => f86i N (f86c 838219) f86p28 σ (joinK (some f86l10) K)) (joinK (some f86l10) K)) ..) (fx7 fun v5 v15 v0 v4 v7 v16 v17 => f86t28 N v5 v15 v0 v4 v7 v16 v17 K) (by kernel_rfl)
noncomputable def f86p25 : Plan := .mk (some f86l10) none f86p26 .n
theorem f86t25 N v5 v15 v0 v4 v16 v17 (K : KT ρ) : f86i N (f86c 182859) f86p25 (f86s10 v5 v15 v0 v4 v16 v17) (joinK (some f86l10) K) =
  impl_orders.Z25 N v5 v15 v0 v4 v16 v17 (fun v5 v15 v0 v4 v16 v17 => K .nrm (f86s10 v5 v15 v0 v4 v16 v17)) :=
 viaBlockS (by kernel_rfl) (f86t26 N (K := blockK 3 (joinK (some f86l10) K)) ..) (by kernel_rfl)
theorem f86t33 N v5 v15 v0 v4 v16 v17 (K : KT ρ) : f86i N (f86c 248395) .n (f86s10 v5 v15 v0 v4 v16 v17) (joinK (some f86l11) K) =
  impl_orders.Z33 N v5 v15 v0 v4 v16 v17 (fun v5 v15 v0 v4 v16 v17 => K .nrm (f86s11 v5 v15 v0 v4 v16 v17)) := by kernel_rfl
noncomputable def f86p24 : Plan := .mk (some f86l10) none f86p25 .n
theorem f86t24 N v5 v15 v0 v4 v16 v17 (K : KT ρ) : f86i N (f86c 117323) f86p24 (f86s10 v5 v15 v0 v4 v16 v17) (joinK (some f86l11) K) =
  impl_orders.Z24 N v5 v15 v0 v4 v16 v17 (fun v5 v15 v0 v4 v16 v17 => K .nrm (f86s11 v5 v15 v0 v4 v16 v17)) :=
 viaSeqS (fun k => impl_orders.Z25 N v5 v15 v0 v4 v16 v17 k) (by kernel_rfl) (f86t25 N (K := seqK (fun σ => f86i N (f86c 248395) .n σ (joinK (some f86l11) K)) (joinK (some f86l11) K)) ..) (fx6 fun v5 v15 v0 v4 v16 v17 => f86t33 N v5 v15 v0 v4 v16 v17 K) (by kernel_rfl)
noncomputable def f86p22 : Plan := .mk (some f86l10) none .n f86p24
theorem f86t22 N v5 v15 v0 v4 v16 v17 v18 (K : KT ρ) : f86i N (f86c 51787) f86p22 (f86s12 v5 v15 v0 v4 v16 v17 v18) (joinK (some f86l11) K) =
  impl_orders.Z22 N v5 v15 v0 v4 v16 v17 v18 (fun v5 v15 v0 v4 v16 v17 => K .nrm (f86s11 v5 v15 v0 v4 v16 v17)) (fun v5 v0 v4 => K (.exit 2) (f86s15 v5 v0 v4)) :=
 viaSeqS (fun k => impl_orders.Z23 N v5 v15 v0 v4 v16 v17 v18 k (fun v5 v0 v4 => K (.exit 2) (f86s15 v5 v0 v4))) (by kernel_rfl) (f86t23 N (K := seqK (fun σ => f86i N (f86c 117323) f86p24 σ (joinK (some f86l11) K)) (joinK (some f86l11) K)) ..) (fx6 fun v5 v15 v0 v4 v16 v17 => f86t24 N v5 v15 v0 v4 v16 v17 K) (by kernel_rfl)
noncomputable def f86p20 : Plan := .mk (some f86l12) none .n f86p22
theorem f86t20 N v5 v15 v0 v4 v16 v17 (K : KT ρ) : f86i N (f86c 19019) f86p20 (f86s11 v5 v15 v0 v4 v16 v17) (joinK (some f86l11) K) =
  impl_orders.Z20 N v5 v15 v0 v4 v16 v17 (fun v5 v15 v0 v4 v16 v17 => K .nrm (f86s11 v5 v15 v0 v4 v16 v17)) (fun v5 v0 v4 => K (.exit 2) (f86s15 v5 v0 v4)) :=
 viaSeqS (fun k => impl_orders.Z21 N v5 v15 v0 v4 v16 v17 k) (by kernel_rfl) (f86t21 N (K := seqK (fun σ => f86i N (f86c 51787) f86p22 σ (joinK (some f86l11) K)) (joinK (some f86l11) K)) ..) (fx7 fun v5 v15 v0 v4 v16 v17 v18 => f86t22 N v5 v15 v0 v4 v16 v17 v18 K) (by kernel_rfl)
noncomputable def f86p19 : Plan := .mk none (some f86l11) f86p20 .n
noncomputable abbrev f86w19 {ρ : Type} (N M : Nat) (σ : St) (K : KT ρ) : Option ρ := loopC (fun σ K => f86i N (f86c 19019) f86p20 σ K) f86l11 M σ K
theorem f86t19L {ρ : Type} (N : Nat) (K : KT ρ) : ∀ (M : Nat) (v5 v15 : LL) (v0 v4 v16 v17 : Int), f86w19 N M (f86s11 v5 v15 v0 v4 v16 v17) K =
  impl_orders.Z19L N (fun v5 v0 v4 => K (.exit 2) (f86s15 v5 v0 v4)) M v5 v15 v0 v4 v16 v17
  | 0, _, _, _, _, _, _ => rfl
  | M + 1, v5, v15, v0, v4, v16, v17 => viaRoundS (fun k => impl_orders.Z20 N v5 v15 v0 v4 v16 v17 k (fun v5 v0 v4 => K (.exit 2) (f86s15 v5 v0 v4))) (f86t20 N (K := seqK (fun σ => f86w19 N M σ K) K) ..) (fx6 fun v5 v15 v0 v4 v16 v17 => f86t19L N K M v5 v15 v0 v4 v16 v17) (by kernel_rfl)
theorem f86t19 N v15 v0 v4 v16 v17 (K : KT ρ) : f86i N (f86c 10827) f86p19 (f86s5 v15 v0 v4 v16 v17) (joinK (some f86l15) K) =
  impl_orders.Z19 N v15 v0 v4 v16 v17 (fun v5 v0 v4 => K (.exit 2) (f86s15 v5 v0 v4)) :=
 viaLoopS (by kernel_rfl) (f86t19L N (joinK (some f86l15) K) N ([] : List (LI)) v15 v0 v4 v16 v17) (by kernel_rfl)
noncomputable def f86p18 : Plan := .mk (some f86l15) none f86p19 .n
theorem f86t18 N v15 v0 v4 v16 v17 (K : KT ρ) : f86i N (f86c 6731) f86p18 (f86s5 v15 v0 v4 v16 v17) (joinK (some f86l15) K) =
  impl_orders.Z18 N v15 v0 v4 v16 v17 (fun v5 v0 v4 => K .nrm (f86s15 v5 v0 v4)) :=
 viaBlockS (by kernel_rfl) (f86t19 N (K := blockK 2 (joinK (some f86l15) K)) ..) (by kernel_rfl)
noncomputable def f86p16 : Plan := .mk (some f86l5) none .n f86p18
theorem f86t16 N v3 v0 v4 (K : KT ρ) : f86i N (f86c 2635) f86p16 (f86s4 v3 v0 v4) (joinK (some f86l15) K) =
  impl_orders.Z16 N v3 v0 v4 (fun v5 v0 v4 => K .nrm (f86s15 v5 v0 v4)) :=
 viaSeqS (fun k => impl_orders.Z17 N v3 v0 v4 k) (by kernel_rfl) (f86t17 N (K := seqK (fun σ => f86i N (f86c 6731) f86p18 σ (joinK (some f86l15) K)) (joinK (some f86l15) K)) ..) (fx5 fun v15 v0 v4 v16 v17 => f86t18 N v15 v0 v4 v16 v17 K) (by kernel_rfl)
theorem f86t34 N v5 v0 v4 (K : KT ρ) : f86i N (f86c 3659) .n (f86s15 v5 v0 v4) (joinK (some f86l3) K) =
  impl_orders.Z34 N v5 v0 v4 (fun v3 v0 v4 => K .nrm (f86s3 v3 v0 v4)) := by kernel_rfl
noncomputable def f86p15 : Plan := .mk (some f86l15) none f86p16 .n
theorem f86t15 N v3 v0 v4 (K : KT ρ) : f86i N (f86c 1611) f86p15 (f86s4 v3 v0 v4) (joinK (some f86l3) K) =
  impl_orders.Z15 N v3 v0 v4 (fun v3 v0 v4 => K .nrm (f86s3 v3 v0 v4)) :=
 viaSeqS (fun k => impl_orders.Z16 N v3 v0 v4 k) (by kernel_rfl) (f86t16 N (K := seqK (fun σ => f86i N (f86c 3659) .n σ (joinK (some f86l3) K)) (joinK (some f86l3) K)) ..) (fx3 fun v5 v0 v4 => f86t34 N v5 v0 v4 K) (by kernel_rfl)
noncomputable def f86p13 : Plan := .mk (some f86l4) none .n f86p15
theorem f86t13 N v3 v0 v4 (K : KT ρ) : f86i N (f86c 587) f86p13 (f86s3 v3 v0 v4) (joinK (some f86l3) K) =
  impl_orders.Z13 N v3 v0 v4 (fun v3 v0 v4 => K .nrm (f86s3 v3 v0 v4)) :=
 viaSeqS (fun k => impl_orders.Z14 N v3 v0 v4 k) (by kernel_rfl) (f86t14 N (K := seqK (fun σ => f86i N (f86c 1611) f86p15 σ (joinK (some f86l3) K)) (joinK (some f86l3) K)) ..) (fx3 fun v3 v0 v4 => f86t15 N v3 v0 v4 K) (by kernel_rfl)
noncomputable def f86p12 : Plan := .mk (some f86l3) none f86p13 .n
theorem f86t12 N v3 v0 v4 (K : KT ρ) : f86i N (f86c 331) f86p12 (f86s3 v3 v0 v4) (joinK (some f86l3) K) =
  impl_orders.Z12 N v3 v0 v4 (fun v3 v0 v4 => K .nrm (f86s3 v3 v0 v4)) :=
 viaBlockS (by kernel_rfl) (f86t13 N (K := blockK 1 (joinK (some f86l3) K)) ..) (by kernel_rfl)
theorem f86t35 N v3 v0 v4 (K : KT ρ) : f86i N (f86c 459) .n (f86s3 v3 v0 v4) (joinK (some f86l3) K) =
  impl_orders.Z35 N v3 v0 v4 (fun v3 v0 v4 => K .nrm (f86s3 v3 v0 v4)) := by kernel_rfl
noncomputable def f86p11 : Plan := .mk (some f86l3) none f86p12 .n
theorem f86t11 N v3 v0 v4 (K : KT ρ) : f86i N (f86c 203) f86p11 (f86s3 v3 v0 v4) (joinK (some f86l3) K) =
  impl_orders.Z11 N v3 v0 v4 (fun v3 v0 v4 => K .nrm (f86s3 v3 v0 v4)) :=
 viaSeqS (fun k => impl_orders.Z12 N v3 v0 v4 k) (by kernel_rfl) (f86t12 N (K := seqK (fun σ => f86i N (f86c 459) .n σ (joinK (some f86l3) K)) (joinK (some f86l3) K)) ..) (fx3 fun v3 v0 v4 => f86t35 N v3 v0 v4 K) (by kernel_rfl)
noncomputable def f86p9 : Plan := .mk (some f86l3) none .n f86p11
theorem f86t9 N v3 v0 v4 (K : KT ρ) : f86i N (f86c 75) f86p9 (f86s3 v3 v0 v4) (joinK (some f86l3) K) =
  impl_orders.Z9 N v3 v0 v4 (fun v3 v0 v4 => K .nrm (f86s3 v3 v0 v4)) (fun v3 => K (.exit 0) (f86s16 v3)) :=
 viaSeqS (fun k => impl_orders.Z10 N v3 v0 v4 k (fun v3 => K (.exit 0) (f86s16 v3))) (by kernel_rfl) (f86t10 N (K := seqK (fun σ => f86i N (f86c 203) f86p11 σ (joinK (some f86l3) K)) (joinK (some f86l3) K)) ..) (fx3 fun v3 v0 v4 => f86t11 N v3 v0 v4 K) (by kernel_rfl)
noncomputable def f86p8 : Plan := .mk none (some f86l3) f86p9 .n
noncomputable abbrev f86w8 {ρ : Type} (N M : Nat) (σ : St) (K : KT ρ) : Option ρ := loopC (fun σ K => f86i N (f86c 75) f86p9 σ K) f86l3 M σ K
theorem f86t8L {ρ : Type} (N : Nat) (K : KT ρ) : ∀ (M : Nat) (v3 : LL) (v0 v4 : Int), f86w8 N M (f86s3 v3 v0 v4) K =
  impl_orders.Z8L N (fun v3 => K (.exit 0) (f86s16 v3)) M v3 v0 v4
  | 0, _, _, _ => rfl
  | M + 1, v3, v0, v4 => viaRoundS (fun k => impl_orders.Z9 N v3 v0 v4 k (fun v3 => K (.exit 0) (f86s16 v3))) (f86t9 N (K := seqK (fun σ => f86w8 N M σ K) K) ..) (fx3 fun v3 v0 v4 => f86t8L N K M v3 v0 v4) (by kernel_rfl)
theorem f86t8 N v3 v0 v4 (K : KT ρ) : f86i N (f86c 43) f86p8 (f86s3 v3 v0 v4) (joinK (some f86l16) K) =
  impl_orders.Z8 N v3 v0 v4 (fun v3 => K (.exit 0) (f86s16 v3)) :=
 viaLoopS (by kernel_rfl) (f86t8L N (joinK (some f86l16) K) N v3 v0 v4) (by kernel_rfl)
noncomputable def f86p7 : Plan := .mk (some f86l16) none f86p8 .n
theorem f86t7 N v3 v0 v4 (K : KT ρ) : f86i N (f86c 27) f86p7 (f86s3 v3 v0 v4) (joinK (some f86l16) K) =
  impl_orders.Z7 N v3 v0 v4 (fun v3 => K .nrm (f86s16 v3)) :=
 viaBlockS (by kernel_rfl) (f86t8 N (K := blockK 0 (joinK (some f86l16) K)) ..) (by kernel_rfl)
noncomputable def f86p5 : Plan := .mk (some f86l3) none .n f86p7
theorem f86t5 N v3 v0 (K : KT ρ) : f86i N (f86c 11) f86p5 (f86s2 v3 v0) (joinK (some f86l16) K) =
  impl_orders.Z5 N v3 v0 (fun v3 => K .nrm (f86s16 v3)) :=
 viaSeqS (fun k => impl_orders.Z6 N v3 v0 k) (by kernel_rfl) (f86t6 N (K := seqK (fun σ => f86i N (f86c 27) f86p7 σ (joinK (some f86l16) K)) (joinK (some f86l16) K)) ..) (fx3 fun v3 v0 v4 => f86t7 N v3 v0 v4 K) (by kernel_rfl)
theorem f86t36 N v3 (K : KT ρ) : f86i N (f86c 15) .n (f86s16 v3) (joinK (some f86lE) K) =
  impl_orders.Z36 N v3 (fun v2 => K .ret (f86s17 v2)) := by kernel_rfl
noncomputable def f86p4 : Plan := .mk (some f86l16) none f86p5 .n
theorem f86t4 N v3 v0 (K : KT ρ) : f86i N (f86c 7) f86p4 (f86s2 v3 v0) (joinK (some f86lE) K) =
  impl_orders.Z4 N v3 v0 (fun v2 => K .ret (f86s17 v2)) :=
 viaSeqS (fun k => impl_orders.Z5 N v3 v0 k) (by kernel_rfl) (f86t5 N (K := seqK (fun σ => f86i N (f86c 15) .n σ (joinK (some f86lE) K)) (joinK (some f86lE) K)) ..) (funext fun v3 => f86t36 N v3 K) (by kernel_rfl)
noncomputable def f86p2 : Plan := .mk (some f86l2) none .n f86p4
theorem f86t2 N v0 (K : KT ρ) : f86i N (f86c 3) f86p2 (f86s1 v0) (joinK (some f86lE) K) =
  impl_orders.Z2 N v0 (fun v2 => K .ret (f86s17 v2)) :=
 viaSeqS (fun k => impl_orders.Z3 N v0 k) (by kernel_rfl) (f86t3 N (K := seqK (fun σ => f86i N (f86c 7) f86p4 σ (joinK (some f86lE) K)) (joinK (some f86lE) K)) ..) (fx2 fun v3 v0 => f86t4 N v3 v0 K) (by kernel_rfl)
noncomputable def f86p0 : Plan := .mk (some f86l1) none .n f86p2
theorem f86t0 N v0 (K : KT ρ) : f86i N (f86c 1) f86p0 (f86s0 v0) (joinK (some f86lE) K) =
  impl_orders.Z0 N v0 (fun v2 => K .ret (f86s17 v2)) :=
 viaSeqS (fun k => impl_orders.Z1 N v0 k) (by kernel_rfl) (f86t1 N (K := seqK (fun σ => f86i N (f86c 3) f86p2 σ (joinK (some f86lE) K)) (joinK (some f86lE) K)) ..) (funext fun v0 => f86t2 N v0 K) (by kernel_rfl)
theorem f86m (N : Nat) (v0 : Int) : f86i N (f86c 1) f86p0 (f86s0 v0) (joinK (some f86lE) (finK tab f86sig Try.f86.results.toList)) = impl_orders.Z0 N v0 (fun v2 => some ((), (v2, ()))) :=
  (f86t0 N v0 (finK tab f86sig Try.f86.results.toList)).trans (by kernel_rfl)
theorem f86ok (h : impl_orders.Spec) : EntryOk Try.prog 86 e86 :=
  entry_of_code (sig := f86sig) (c := (f86c 1)) (pl := f86p0) (je := (some f86lE)) (B := f86B) Try.func86 (by kernel_rfl) (by kernel_rfl) (by kernel_rfl) tabOk f86GOk (by kernel_rfl) (by kernel_rfl) (by kernel_rfl) (by kernel_rfl) fun X hb hp => by
    obtain ⟨v0, _⟩ := X
    obtain ⟨N, h⟩ := h v0 hp
    exact ⟨N, (f86m N v0).trans (h N (Nat.le_refl N))⟩
theorem e86ok : EntryOk Try.prog 86 e86 := f86ok impl_orders.ok
end Go.Fw
namespace Go.Fw
variable {ρ : Type}
open Go.Proofs
noncomputable def f133sig : Sig := ⟨[⟨.sl 3 (.int .i64), false, false⟩, ⟨.int .i64, false, false⟩], [⟨.int .i64, false, false⟩]⟩
noncomputable def e133 : Entry := ⟨f133sig, none, fun X => ((), ((slices_Index_int_int.g X.1 X.2.1), ()))⟩
noncomputable def f133G : Gm := emptyG
theorem f133GOk : GOk Try.prog f133G := GOk.nil
noncomputable def f133lE : Clean := ⟨[], [], [], [], []⟩
noncomputable def f133s0 (v0 : LI) (v1 : Int) : St := initSt f133sig.ps (v0, (v1, ()))
noncomputable def f133s1 (v0 : LI) (v1 : Int) : St := stOf [(0, .c (.sn 3 tI v0 none)), (1, xi v1)] [] []
noncomputable def f133l1 : Clean := ⟨[0, 1], [], [], [], []⟩
noncomputable def f133s2 (v0 : LI) (v1 v7 v8 : Int) : St := stOf [(0, .c (.sn 3 tI v0 none)), (1, xi v1), (7, xi v7), (8, xi v8)] [] []
noncomputable def f133l2 : Clean := ⟨[0, 1, 7, 8], [], [], [], []⟩
noncomputable def f133s3  : St := stOf [] [] []
noncomputable def f133l3 : Clean := ⟨[], [], [], [], []⟩
noncomputable def f133s4 (v4 : Int) : St := stOf [(4, xi v4)] [] []
noncomputable def f133l4 : Clean := ⟨[4], [], [], [], []⟩
noncomputable def f133B : Nat → Option Clean := lookL [(0, f133l3), (1000000, f133l4)]
noncomputable abbrev f133i {ρ : Type} (N : Nat) (c : Code) (p : Plan) (σ : St) (K : KT ρ) : Option ρ := iCode f133G tab f133B N c p σ K
noncomputable def f133c (n : Nat) : Code := codeN 99 (bodyOf Try.f133) n
theorem f133t1 N v0 v1 (K : KT ρ) : f133i N (f133c 2) .n (f133s0 v0 v1) (joinK (some f133l1) K) =
  slices_Index_int_int.Z1 N v0 v1 (fun v0 v1 => K .nrm (f133s1 v0 v1)) := by kernel_rfl
theorem f133t4 N v0 v1 (K : KT ρ) : f133i N (f133c 9) .n (f133s1 v0 v1) (joinK (some f133l2) K) =
  slices_Index_int_int.Z4 N v0 v1 (fun v0 v1 v7 v8 => K .nrm (f133s2 v0 v1 v7 v8)) := by kernel_rfl
theorem f133t7 N v0 v1 v7 v8 (K : KT ρ) : f133i N (f133c 37) .n (f133s2 v0 v1 v7 v8) (joinK (some f133l2) K) =
  slices_Index_int_int.Z7 N v0 v1 v7 v8 (fun v0 v1 v7 v8 => K .nrm (f133s2 v0 v1 v7 v8)) (K (.exit 0) f133s3) (fun v4 => K .ret (f133s4 v4)) := by kernel_rfl
noncomputable def f133p6 : Plan := .mk none (some f133l2) .n .n
noncomputable abbrev f133w6 {ρ : Type} (N M : Nat) (σ : St) (K : KT ρ) : Option ρ := loopC (fun σ K => f133i N (f133c 37) .n σ K) f133l2 M σ K
theorem f133t6L {ρ : Type} (N : Nat) (K : KT ρ) : ∀ (M : Nat) (v0 : LI) (v1 v7 v8 : Int), f133w6 N M (f133s2 v0 v1 v7 v8) K =
  slices_Index_int_int.Z6L N (K (.exit 0) f133s3) (fun v4 => K .ret (f133s4 v4)) M v0 v1 v7 v8
  | 0, _, _, _, _ => rfl
  | M + 1, v0, v1, v7, v8 => viaRoundS (fun k => slices_Index_int_int.Z7 N v0 v1 v7 v8 k (K (.exit 0) f133s3) (fun v4 => K .ret (f133s4 v4))) (f133t7 N (K := seqK (fun σ => f133w6 N M σ K) K) ..) (fx4 fun v0 v1 v7 v8 => f133t6L N K M v0 v1 v7 v8) (by kernel_rfl)
theorem f133t6 N v0 v1 v7 v8 (K : KT ρ) : f133i N (f133c 21) f133p6 (f133s2 v0 v1 v7 v8) (joinK (some f133l3) K) =
  slices_Index_int_int.Z6 N v0 v1 v7 v8 (K (.exit 0) f133s3) (fun v4 => K .ret (f133s4 v4)) :=
 viaLoopS (by kernel_rfl) (f133t6L N (joinK (some f133l3) K) N v0 v1 v7 v8) (by kernel_rfl)
noncomputable def f133p5 : Plan := .mk (some f133l3) none f133p6 .n
theorem f133t5 N v0 v1 v7 v8 (K : KT ρ) : f133i N (f133c 13) f133p5 (f133s2 v0 v1 v7 v8) (joinK (some f133l3) K) =
  slices_Index_int_int.Z5 N v0 v1 v7 v8 (K .nrm f133s3) (fun v4 => K .ret (f133s4 v4)) :=
 viaBlockS (by kernel_rfl) (f133t6 N (K := blockK 0 (joinK (some f133l3) K)) ..) (by kernel_rfl)
noncomputable def f133p3 : Plan := .mk (some f133l2) none .n f133p5
theorem f133t3 N v0 v1 (K : KT ρ) : f133i N (f133c 5) f133p3 (f133s1 v0 v1) (joinK (some f133l3) K) =
  slices_Index_int_int.Z3 N v0 v1 (K .nrm f133s3) (fun v4 => K .ret (f133s4 v4)) :=
 viaSeqS (fun k => slices_Index_int_int.Z4 N v0 v1 k) (by kernel_rfl) (f133t4 N (K := seqK (fun σ => f133i N (f133c 13) f133p5 σ (joinK (some f133l3) K)) (joinK (some f133l3) K)) ..) (fx4 fun v0 v1 v7 v8 => f133t5 N v0 v1 v7 v8 K) (by kernel_rfl)
theorem f133t8 N  (K : KT ρ) : f133i N (f133c 7) .n f133s3 (joinK (some f133lE) K) =
  slices_Index_int_int.Z8 N (fun v4 => K .ret (f133s4 v4)) := by kernel_rfl
noncomputable def f133p2 : Plan := .mk (some f133l3) none f133p3 .n
theorem f133t2 N v0 v1 (K : KT ρ) : f133i N (f133c 3) f133p2 (f133s1 v0 v1) (joinK (some f133lE) K) =
  slices_Index_int_int.Z2 N v0 v1 (fun v4 => K .ret (f133s4 v4)) :=
 viaSeqS (fun k => slices_Index_int_int.Z3 N v0 v1 k (fun v4 => K .ret (f133s4 v4))) (by kernel_rfl) (f133t3 N (K := seqK (fun σ => f133i N (f133c 7) .n σ (joinK (some f133lE) K)) (joinK (some f133lE) K)) ..) (f133t8 N K) (by kernel_rfl)
noncomputable def f133p0 : Plan := .mk (some f133l1) none .n f133p2
theorem f133t0 N v0 v1 (K : KT ρ) : f133i N (f133c 1) f133p0 (f133s0 v0 v1) (joinK (some f133lE) K) =
  slices_Index_int_int.Z0 N v0 v1 (fun v4 => K .ret (f133s4 v4)) :=
 viaSeqS (fun k => slices_Index_int_int.Z1 N v0 v1 k) (by kernel_rfl) (f133t1 N (K := seqK (fun σ => f133i N (f133c 3) f133p2 σ (joinK (some f133lE) K)) (joinK (some f133lE) K)) ..) (fx2 fun v0 v1 => f133t2 N v0 v1 K) (by kernel_rfl)
theorem f133m (N : Nat) (v0 : LI) (v1 : Int) : f133i N (f133c 1) f133p0 (f133s0 v0 v1) (joinK (some f133lE) (finK tab f133sig Try.f133.results.toList)) = slices_Index_int_int.Z0 N v0 v1 (fun v4 => some ((), (v4, ()))) :=
  (f133t0 N v0 v1 (finK tab f133sig Try.f133.results.toList)).trans (by kernel_rfl)
theorem f133ok (h : slices_Index_int_int.Spec) : EntryOk Try.prog 133 e133 :=
  entry_of_code (sig := f133sig) (c := (f133c 1)) (pl := f133p0) (je := (some f133lE)) (B := f133B) Try.func133 (by kernel_rfl) (by kernel_rfl) (by kernel_rfl) tabOk f133GOk (by kernel_rfl) (by kernel_rfl) (by kernel_rfl) (by kernel_rfl) fun X hb hp => by
    obtain ⟨v0, v1, _⟩ := X
    obtain ⟨N, h⟩ := h v0 v1 hb.1
    exact ⟨N, (f133m N v0 v1).trans (h N (Nat.le_refl N))⟩
theorem e133ok : EntryOk Try.prog 133 e133 := f133ok slices_Index_int_int.ok
end Go.Fw
namespace Go.Fw
variable {ρ : Type}
open Go.Proofs
noncomputable def f116sig : Sig := ⟨[⟨.sl 3 (.int .i64), false, false⟩, ⟨.int .i64, false, false⟩], [⟨.bool, false, false⟩]⟩
noncomputable def e116 : Entry := ⟨f116sig, none, fun X => ((), ((slices_Contains_int_int.g X.1 X.2.1), ()))⟩
noncomputable def f116G : Gm := addG emptyG 133 e133
theorem f116GOk : GOk Try.prog f116G := (GOk.nil).add e133ok (by kernel_rfl)
noncomputable def f116lE : Clean := ⟨[], [], [], [], []⟩
noncomputable def f116s0 (v0 : LI) (v1 : Int) : St := initSt f116sig.ps (v0, (v1, ()))
noncomputable def f116s1 (v4 : Bool) : St := stOf [(4, xB v4)] [] []
noncomputable def f116l1 : Clean := ⟨[4], [], [], [], []⟩
noncomputable def f116B : Nat → Option Clean := lookL [(1000000, f116l1)]
noncomputable abbrev f116i {ρ : Type} (N : Nat) (c : Code) (p : Plan) (σ : St) (K : KT ρ) : Option ρ := iCode f116G tab f116B N c p σ K
noncomputable def f116c (n : Nat) : Code := codeN 99 (bodyOf Try.f116) n
theorem f116t0 N v0 v1 (K : KT ρ) : f116i N (f116c 1) .n (f116s0 v0 v1) (joinK (some f116lE) K) =
  slices_Contains_int_int.Z0 N v0 v1 (fun v4 => K .ret (f116s1 v4)) := by kernel_rfl
theorem f116m (N : Nat) (v0 : LI) (v1 : Int) : f116i N (f116c 1) .n (f116s0 v0 v1) (joinK (some f116lE) (finK tab f116sig Try.f116.results.toList)) = slices_Contains_int_int.Z0 N v0 v1 (fun v4 => some ((), (v4, ()))) :=
  (f116t0 N v0 v1 (finK tab f116sig Try.f116.results.toList)).trans (by kernel_rfl)
theorem f116ok (h : slices_Contains_int_int.Spec) : EntryOk Try.prog 116 e116 :=
  entry_of_code (sig := f116sig) (c := (f116c 1)) (pl := .n) (je := (some f116lE)) (B := f116B) Try.func116 (by kernel_rfl) (by kernel_rfl) (by kernel_rfl) tabOk f116GOk (by kernel_rfl) (by kernel_rfl) (by kernel_rfl) (by kernel_rfl) fun X hb hp => by
    obtain ⟨v0, v1, _⟩ := X
    obtain ⟨N, h⟩ := h v0 v1 hb.1
    exact ⟨N, (f116m N v0 v1).trans (h N (Nat.le_refl N))⟩
theorem e116ok : EntryOk Try.prog 116 e116 := f116ok slices_Contains_int_int.ok
end Go.Fw
namespace Go.Fw
variable {ρ : Type}
open Go.Proofs
noncomputable def f90sig : Sig := ⟨[⟨.sl 3 (.int .i64), false, false⟩, ⟨.int .i64, false, false⟩], [⟨.bool, false, false⟩]⟩
noncomputable def e90 : Entry := ⟨f90sig, none, fun X => ((), ((impl_isOrder.g X.1 X.2.1), ()))⟩
noncomputable def f90G : Gm := addG (addG emptyG 70 e70) 116 e116
theorem f90GOk : GOk Try.prog f90G := ((GOk.nil).add e70ok (by kernel_rfl)).add e116ok (by kernel_rfl)
noncomputable def f90lE : Clean := ⟨[], [], [], [], []⟩
noncomputable def f90s0 (v0 : LI) (v1 : Int) : St := initSt f90sig.ps (v0, (v1, ()))
noncomputable def f90s1 (v0 : LI) (v1 : Int) : St := stOf [(0, .c (.sn 3 tI v0 none)), (1, xi v1)] [] []
noncomputable def f90l1 : Clean := ⟨[0, 1], [], [], [], []⟩
noncomputable def f90s2 (v0 : LI) (v1 : Int) (v11 : LI) (v12 v13 : Int) : St := stOf [(0, .c (.sn 3 tI v0 none)), (1, xi v1), (11, .c (.sn 3 tI v11 none)), (12, xi v12), (13, xi v13)] [] []
noncomputable def f90l2 : Clean := ⟨[0, 1, 11, 12, 13], [], [], [], []⟩
noncomputable def f90s3  : St := stOf [] [] []
noncomputable def f90l3 : Clean := ⟨[], [], [], [], []⟩
noncomputable def f90s4 (v4 : Bool) : St := stOf [(4, xB v4)] [] []
noncomputable def f90l4 : Clean := ⟨[4], [], [], [], []⟩
noncomputable def f90B : Nat → Option Clean := lookL [(0, f90l3), (1000000, f90l4)]
noncomputable abbrev f90i {ρ : Type} (N : Nat) (c : Code) (p : Plan) (σ : St) (K : KT ρ) : Option ρ := iCode f90G tab f90B N c p σ K
noncomputable def f90c (n : Nat) : Code := codeN 99 (bodyOf Try.f90) n
theorem f90t1 N v0 v1 (K : KT ρ) : f90i N (f90c 2) .n (f90s0 v0 v1) (joinK (some f90l1) K) =
  impl_isOrder.Z1 N v0 v1 (fun v0 v1 => K .nrm (f90s1 v0 v1)) := by kernel_rfl
theorem f90t3 N v0 v1 (K : KT ρ) : f90i N (f90c 5) .n (f90s1 v0 v1) (joinK (some f90l1) K) =
  impl_isOrder.Z3 N v0 v1 (fun v0 v1 => K .nrm (f90s1 v0 v1)) (fun v4 => K .ret (f90s4 v4)) := by kernel_rfl
theorem f90t6 N v0 v1 (K : KT ρ) : f90i N (f90c 19) .n (f90s1 v0 v1) (joinK (some f90l2) K) =
  impl_isOrder.Z6 N v0 v1 (fun v0 v1 v11 v12 v13 => K .nrm (f90s2 v0 v1 v11 v12 v13)) := by kernel_rfl
theorem f90t9 N v0 v1 v11 v12 v13 (K : KT ρ) : f90i N (f90c 75) .n (f90s2 v0 v1 v11 v12 v13) (joinK (some f90l2) K) =
  impl_isOrder.Z9 N v0 v1 v11 v12 v13 (fun v0 v1 v11 v12 v13 => K .nrm (f90s2 v0 v1 v11 v12 v13)) (K (.exit 0) f90s3) (fun v4 => K .ret (f90s4 v4)) := by kernel_rfl
noncomputable def f90p8 : Plan := .mk none (some f90l2) .n .n
noncomputable abbrev f90w8 {ρ : Type} (N M : Nat) (σ : St) (K : KT ρ) : Option ρ := loopC (fun σ K => f90i N (f90c 75) .n σ K) f90l2 M σ K
theorem f90t8L {ρ : Type} (N : Nat) (K : KT ρ) : ∀ (M : Nat) (v0 : LI) (v1 : Int) (v11 : LI) (v12 v13 : Int), f90w8 N M (f90s2 v0 v1 v11 v12 v13) K =
  impl_isOrder.Z8L N (K (.exit 0) f90s3) (fun v4 => K .ret (f90s4 v4)) M v0 v1 v11 v12 v13
  | 0, _, _, _, _, _ => rfl
  | M + 1, v0, v1, v11, v12, v13 => viaRoundS (fun k => impl_isOrder.Z9 N v0 v1 v11 v12 v13 k (K (.exit 0) f90s3) (fun v4 => K .ret (f90s4 v4))) (f90t9 N (K := seqK (fun σ => f90w8 N M σ K) K) ..) (fx5 fun v0 v1 v11 v12 v13 => f90t8L N K M v0 v1 v11 v12 v13) (by kernel_rfl)
theorem f90t8 N v0 v1 v11 v12 v13 (K : KT ρ) : f90i N (f90c 43) f90p8 (f90s2 v0 v1 v11 v12 v13) (joinK (some f90l3) K) =
  impl_isOrder.Z8 N v0 v1 v11 v12 v13 (K (.exit 0) f90s3) (fun v4 => K .ret (f90s4 v4)) :=
 viaLoopS (by kernel_rfl) (f90t8L N (joinK (some f90l3) K) N v0 v1 v11 v12 v13) (by kernel_rfl)
noncomputable def f90p7 : Plan := .mk (some f90l3) none f90p8 .n
theorem f90t7 N v0 v1 v11 v12 v13 (K : KT ρ) : f90i N (f90c 27) f90p7 (f90s2 v0 v1 v11 v12 v13) (joinK (some f90l3) K) =
  impl_isOrder.Z7 N v0 v1 v11 v12 v13 (K .nrm f90s3) (fun v4 => K .ret (f90s4 v4)) :=
 viaBlockS (by kernel_rfl) (f90t8 N (K := blockK 0 (joinK (some f90l3) K)) ..) (by kernel_rfl)
noncomputable def f90p5 : Plan := .mk (some f90l2) none .n f90p7
theorem f90t5 N v0 v1 (K : KT ρ) : f90i N (f90c 11) f90p5 (f90s1 v0 v1) (joinK (some f90l3) K) =
  impl_isOrder.Z5 N v0 v1 (K .nrm f90s3) (fun v4 => K .ret (f90s4 v4)) :=
 viaSeqS (fun k => impl_isOrder.Z6 N v0 v1 k) (by kernel_rfl) (f90t6 N (K := seqK (fun σ => f90i N (f90c 27) f90p7 σ (joinK (some f90l3) K)) (joinK (some f90l3) K)) ..) (fx5 fun v0 v1 v11 v12 v13 => f90t7 N v0 v1 v11 v12 v13 K) (by kernel_rfl)
theorem f90t10 N  (K : KT ρ) : f90i N (f90c 15) .n f90s3 (joinK (some f90lE) K) =
  impl_isOrder.Z10 N (fun v4 => K .ret (f90s4 v4)) := by kernel_rfl
noncomputable def f90p4 : Plan := .mk (some f90l3) none f90p5 .n
theorem f90t4 N v0 v1 (K : KT ρ) : f90i N (f90c 7) f90p4 (f90s1 v0 v1) (joinK (some f90lE) K) =
  impl_isOrder.Z4 N v0 v1 (fun v4 => K .ret (f90s4 v4)) :=
 viaSeqS (fun k => impl_isOrder.Z5 N v0 v1 k (fun v4 => K .ret (f90s4 v4))) (by kernel_rfl) (f90t5 N (K := seqK (fun σ => f90i N (f90c 15) .n σ (joinK (some f90lE) K)) (joinK (some f90lE) K)) ..) (f90t10 N K) (by kernel_rfl)
noncomputable def f90p2 : Plan := .mk (some f90l1) none .n f90p4
theorem f90t2 N v0 v1 (K : KT ρ) : f90i N (f90c 3) f90p2 (f90s1 v0 v1) (joinK (some f90lE) K) =
  impl_isOrder.Z2 N v0 v1 (fun v4 => K .ret (f90s4 v4)) :=
 viaSeqS (fun k => impl_isOrder.Z3 N v0 v1 k (fun v4 => K .ret (f90s4 v4))) (by kernel_rfl) (f90t3 N (K := seqK (fun σ => f90i N (f90c 7) f90p4 σ (joinK (some f90lE) K)) (joinK (some f90lE) K)) ..) (fx2 fun v0 v1 => f90t4 N v0 v1 K) (by kernel_rfl)
noncomputable def f90p0 : Plan := .mk (some f90l1) none .n f90p2
theorem f90t0 N v0 v1 (K : KT ρ) : f90i N (f90c 1) f90p0 (f90s0 v0 v1) (joinK (some f90lE) K) =
  impl_isOrder.Z0 N v0 v1 (fun v4 => K .ret (f90s4 v4)) :=
 viaSeqS (fun k => impl_isOrder.Z1 N v0 v1 k) (by kernel_rfl) (f90t1 N (K := seqK (fun σ => f90i N (f90c 3) f90p2 σ (joinK (some f90lE) K)) (joinK (some f90lE) K)) ..) (fx2 fun v0 v1 => f90t2 N v0 v1 K) (by kernel_rfl)
theorem f90m (N : Nat) (v0 : LI) (v1 : Int) : f90i N (f90c 1) f90p0 (f90s0 v0 v1) (joinK (some f90lE) (finK tab f90sig Try.f90.results.toList)) = impl_isOrder.Z0 N v0 v1 (fun v4 => some ((), (v4, ()))) :=
  (f90t0 N v0 v1 (finK tab f90sig Try.f90.results.toList)).trans (by kernel_rfl)
theorem f90ok (h : impl_isOrder.Spec) : EntryOk Try.prog 90 e90 :=
  entry_of_code (sig := f90sig) (c := (f90c 1)) (pl := f90p0) (je := (some f90lE)) (B := f90B) Try.func90 (by kernel_rfl) (by kernel_rfl) (by kernel_rfl) tabOk f90GOk (by kernel_rfl) (by kernel_rfl) (by kernel_rfl) (by kernel_rfl) fun X hb hp => by
    obtain ⟨v0, v1, _⟩ := X
    obtain ⟨N, h⟩ := h v0 v1 hb.1
    exact ⟨N, (f90m N v0 v1).trans (h N (Nat.le_refl N))⟩
theorem e90ok : EntryOk Try.prog 90 e90 := f90ok impl_isOrder.ok
end Go.Fw
namespace Go.Fw
variable {ρ : Type}
open Go.Proofs
noncomputable def f47sig : Sig := ⟨[⟨.pair (.int .i64) (.pair (.int .i64) (.sl 3 (.int .i64))), true, false⟩, ⟨.sl 3 (.int .i64), false, false⟩], [⟨.pair (.int .i64) (.pair (.int .i64) (.sl 3 (.int .i64))), true, false⟩, ⟨.bool, false, false⟩]⟩
noncomputable def e47 : Entry := ⟨f47sig, none, fun X => ((), ((impl_RenameMatrix.g X.1 X.2.1).1, ((impl_RenameMatrix.g X.1 X.2.1).2, ())))⟩
noncomputable def f47G : Gm := addG (addG (addG emptyG 31 e31) 83 e83) 90 e90
theorem f47GOk : GOk Try.prog f47G := (((GOk.nil).add e31ok (by kernel_rfl)).add e83ok (by kernel_rfl)).add e90ok (by kernel_rfl)
noncomputable def f47lE : Clean := ⟨[], [], [], [], []⟩
noncomputable def f47s0 (v0 : MT) (v1 : LI) : St := initSt f47sig.ps (v0, (v1, ()))
noncomputable def f47s1 (v1 : LI) (v2_0 v2_1 : Int) (v2_2 : LI) (v4_0 v4_1 : Int) : St := stOf [(1, .c (.sn 3 tI v1 none)), (2, xb 2), (4, xb 4)] [(2, (30, [yi v2_0, yi v2_1, .sn 3 tI v2_2 none])), (4, (30, [yi v4_0, yi v4_1, .nil]))] []
noncomputable def f47l1 : Clean := ⟨[1, 2, 4], [2, 4], [], [], []⟩
noncomputable def f47s2 (v6_2 v1 : LI) (v2_0 v2_1 : Int) (v2_2 : LI) (v4_0 v4_1 v6_0 v6_1 : Int) : St := stOf [(1, .c (.sn 3 tI v1 none)), (2, xb 2), (4, xb 4), (6, xb 6)] [(2, (30, [yi v2_0, yi v2_1, .sn 3 tI v2_2 none])), (4, (30, [yi v4_0, yi v4_1, .nil])), (6, (30, [yi v6_0, yi v6_1, .own 20000386]))] [(20000386, (⟨3, .int .i64, v6_2, true, false⟩ : Row))]
noncomputable def f47l2 : Clean := ⟨[1, 2, 4, 6], [2, 4, 6], [], [], [(⟨true, 6, 2⟩, 20000386)]⟩
noncomputable def f47s3 (v6_2 v1 : LI) (v7 v2_0 v2_1 : Int) (v2_2 : LI) (v4_0 v4_1 v6_0 v6_1 : Int) : St := stOf [(1, .c (.sn 3 tI v1 none)), (2, xb 2), (4, xb 4), (6, xb 6), (7, xi v7)] [(2, (30, [yi v2_0, yi v2_1, .sn 3 tI v2_2 none])), (4, (30, [yi v4_0, yi v4_1, .nil])), (6, (30, [yi v6_0, yi v6_1, .own 20000386]))] [(20000386, (⟨3, .int .i64, v6_2, true, false⟩ : Row))]
noncomputable def f47l3 : Clean := ⟨[1, 2, 4, 6, 7], [2, 4, 6], [], [], [(⟨true, 6, 2⟩, 20000386)]⟩
noncomputable def f47s4 (v6_2 v1 : LI) (v7 v8 v2_0 v2_1 : Int) (v2_2 : LI) (v4_0 v4_1 v6_0 v6_1 : Int) : St := stOf [(1, .c (.sn 3 tI v1 none)), (2, xb 2), (4, xb 4), (6, xb 6), (7, xi v7), (8, xi v8)] [(2, (30, [yi v2_0, yi v2_1, .sn 3 tI v2_2 none])), (4, (30, [yi v4_0, yi v4_1, .nil])), (6, (30, [yi v6_0, yi v6_1, .own 20000386]))] [(20000386, (⟨3, .int .i64, v6_2, true, false⟩ : Row))]
noncomputable def f47l4 : Clean := ⟨[1, 2, 4, 6, 7, 8], [2, 4, 6], [], [], [(⟨true, 6, 2⟩, 20000386)]⟩
noncomputable def f47s5 (v6_2 v1 : LI) (v7 v8 v9 v2_0 v2_1 : Int) (v2_2 : LI) (v4_0 v4_1 v6_0 v6_1 : Int) : St := stOf [(1, .c (.sn 3 tI v1 none)), (2, xb 2), (4, xb 4), (6, xb 6), (7, xi v7), (8, xi v8), (9, xi v9)] [(2, (30, [yi v2_0, yi v2_1, .sn 3 tI v2_2 none])), (4, (30, [yi v4_0, yi v4_1, .nil])), (6, (30, [yi v6_0, yi v6_1, .own 20000386]))] [(20000386, (⟨3, .int .i64, v6_2, true, false⟩ : Row))]
noncomputable def f47l5 : Clean := ⟨[1, 2, 4, 6, 7, 8, 9], [2, 4, 6], [], [], [(⟨true, 6, 2⟩, 20000386)]⟩
noncomputable def f47s6 (v6_2 : LI) (v4_0 v4_1 v6_0 v6_1 : Int) : St := stOf [(4, xb 4), (6, xb 6)] [(4, (30, [yi v4_0, yi v4_1, .nil])), (6, (30, [yi v6_0, yi v6_1, .own 20000386]))] [(20000386, (⟨3, .int .i64, v6_2, true, false⟩ : Row))]
noncomputable def f47l6 : Clean := ⟨[4, 6], [4, 6], [], [], [(⟨true, 6, 2⟩, 20000386)]⟩
noncomputable def f47s7 (v4_2 : LI) (v5 : Bool) (v4_0 v4_1 : Int) : St := stOf [(4, xb 4), (5, xB v5)] [(4, (30, [yi v4_0, yi v4_1, .own 20000258]))] [(20000258, (⟨3, .int .i64, v4_2, true, false⟩ : Row))]
noncomputable def f47l7 : Clean := ⟨[4, 5], [4], [⟨⟨true, 4, 2⟩, 30000000, 3, .int .i64, true⟩], [], [(⟨true, 4, 2⟩, 20000258)]⟩
noncomputable def f47B : Nat → Option Clean := lookL [(2, f47l3), (1, f47l3), (0, f47l6), (1000000, f47l7)]
noncomputable abbrev f47i {ρ : Type} (N : Nat) (c : Code) (p : Plan) (σ : St) (K : KT ρ) : Option ρ := iCode f47G tab f47B N c p σ K
noncomputable def f47c (n : Nat) : Code := codeN 99 (bodyOf Try.f47) n
theorem f47t1 N v0 v1 (K : KT ρ) : f47i N (f47c 2) .n (f47s0 v0 v1) (joinK (some f47l1) K) =
  impl_RenameMatrix.Z1 N v0 v1 (fun v1 v2_0 v2_1 v2_2 v4_0 v4_1 => K .nrm (f47s1 v1 v2_0 v2_1 v2_2 v4_0 v4_1)) := by kernel_rfl
theorem f47t3 N v1 v2_0 v2_1 v2_2 v4_0 v4_1 (K : KT ρ) : f47i N (f47c 5) .n (f47s1 v1 v2_0 v2_1 v2_2 v4_0 v4_1) (joinK (some f47l1) K) =
  impl_RenameMatrix.Z3 N v1 v2_0 v2_1 v2_2 v4_0 v4_1 (fun v1 v2_0 v2_1 v2_2 v4_0 v4_1 => K .nrm (f47s1 v1 v2_0 v2_1 v2_2 v4_0 v4_1)) (fun v4_2 v5 v4_0 v4_1 => K .ret (f47s7 v4_2 v5 v4_0 v4_1)) := by kernel_rfl
theorem f47t5 N v1 v2_0 v2_1 v2_2 v4_0 v4_1 (K : KT ρ) : f47i N (f47c 11) .n (f47s1 v1 v2_0 v2_1 v2_2 v4_0 v4_1) (joinK (some f47l2) K) =
  impl_RenameMatrix.Z5 N v1 v2_0 v2_1 v2_2 v4_0 v4_1 (fun v6_2 v1 v2_0 v2_1 v2_2 v4_0 v4_1 v6_0 v6_1 => K .nrm (f47s2 v6_2 v1 v2_0 v2_1 v2_2 v4_0 v4_1 v6_0 v6_1)) := by kernel_rfl
theorem f47t8 N v6_2 v1 v2_0 v2_1 v2_2 v4_0 v4_1 v6_0 v6_1 (K : KT ρ) : f47i N (f47c 39) .n (f47s2 v6_2 v1 v2_0 v2_1 v2_2 v4_0 v4_1 v6_0 v6_1) (joinK (some f47l3) K) =
  impl_RenameMatrix.Z8 N v6_2 v1 v2_0 v2_1 v2_2 v4_0 v4_1 v6_0 v6_1 (fun v6_2 v1 v7 v2_0 v2_1 v2_2 v4_0 v4_1 v6_0 v6_1 => K .nrm (f47s3 v6_2 v1 v7 v2_0 v2_1 v2_2 v4_0 v4_1 v6_0 v6_1)) := by kernel_rfl
theorem f47t12 N v6_2 v1 v7 v2_0 v2_1 v2_2 v4_0 v4_1 v6_0 v6_1 (K : KT ρ) : f47i N (f47c 279) .n (f47s3 v6_2 v1 v7 v2_0 v2_1 v2_2 v4_0 v4_1 v6_0 v6_1) (joinK (some f47l3) K) =
  impl_RenameMatrix.Z12 N v6_2 v1 v7 v2_0 v2_1 v2_2 v4_0 v4_1 v6_0 v6_1 (fun v6_2 v1 v7 v2_0 v2_1 v2_2 v4_0 v4_1 v6_0 v6_1 => K .nrm (f47s3 v6_2 v1 v7 v2_0 v2_1 v2_2 v4_0 v4_1 v6_0 v6_1)) (fun v6_2 v4_0 v4_1 v6_0 v6_1 => K (.exit 0) (f47s6 v6_2 v4_0 v4_1 v6_0 v6_1)) := by kernel_rfl
theorem f47t16 N v6_2 v1 v7 v2_0 v2_1 v2_2 v4_0 v4_1 v6_0 v6_1 (K : KT ρ) : f47i N (f47c 2199) .n (f47s3 v6_2 v1 v7 v2_0 v2_1 v2_2 v4_0 v4_1 v6_0 v6_1) (joinK (some f47l4) K) =
  impl_RenameMatrix.Z16 N v6_2 v1 v7 v2_0 v2_1 v2_2 v4_0 v4_1 v6_0 v6_1 (fun v6_2 v1 v7 v8 v2_0 v2_1 v2_2 v4_0 v4_1 v6_0 v6_1 => K .nrm (f47s4 v6_2 v1 v7 v8 v2_0 v2_1 v2_2 v4_0 v4_1 v6_0 v6_1)) := by kernel_rfl
theorem f47t18 N v6_2 v1 v7 v8 v2_0 v2_1 v2_2 v4_0 v4_1 v6_0 v6_1 (K : KT ρ) : f47i N (f47c 5271) .n (f47s4 v6_2 v1 v7 v8 v2_0 v2_1 v2_2 v4_0 v4_1 v6_0 v6_1) (joinK (some f47l4) K) =
  impl_RenameMatrix.Z18 N v6_2 v1 v7 v8 v2_0 v2_1 v2_2 v4_0 v4_1 v6_0 v6_1 (fun v6_2 v1 v7 v8 v2_0 v2_1 v2_2 v4_0 v4_1 v6_0 v6_1 => K .nrm (f47s4 v6_2 v1 v7 v8 v2_0 v2_1 v2_2 v4_0 v4_1 v6_0 v6_1)) := by kernel_rfl
theorem f47t20 N v6_2 v1 v7 v8 v2_0 v2_1 v2_2 v4_0 v4_1 v6_0 v6_1 (K : KT ρ) : f47i N (f47c 11415) .n (f47s4 v6_2 v1 v7 v8 v2_0 v2_1 v2_2 v4_0 v4_1 v6_0 v6_1) (joinK (some f47l5) K) =
  impl_RenameMatrix.Z20 N v6_2 v1 v7 v8 v2_0 v2_1 v2_2 v4_0 v4_1 v6_0 v6_1 (fun v6_2 v1 v7 v8 v9 v2_0 v2_1 v2_2 v4_0 v4_1 v6_0 v6_1 => K .nrm (f47s5 v6_2 v1 v7 v8 v9 v2_0 v2_1 v2_2 v4_0 v4_1 v6_0 v6_1)) := by kernel_rfl
theorem f47t23 N v6_2 v1 v7 v8 v9 v2_0 v2_1 v2_2 v4_0 v4_1 v6_0 v6_1 (K : KT ρ) : f47i N (f47c 40087) .n (f47s5 v6_2 v1 v7 v8 v9 v2_0 v2_1 v2_2 v4_0 v4_1 v6_0 v6_1) (joinK (some f47l5) K) =
  impl_RenameMatrix.Z23 N v6_2 v1 v7 v8 v9 v2_0 v2_1 v2_2 v4_0 v4_1 v6_0 v6_1 (fun v6_2 v1 v7 v8 v9 v2_0 v2_1 v2_2 v4_0 v4_1 v6_0 v6_1 => K .nrm (f47s5 v6_2 v1 v7 v8 v9 v2_0 v2_1 v2_2 v4_0 v4_1 v6_0 v6_1)) (fun v6_2 v1 v7 v2_0 v2_1 v2_2 v4_0 v4_1 v6_0 v6_1 => K (.exit 2) (f47s3 v6_2 v1 v7 v2_0 v2_1 v2_2 v4_0 v4_1 v6_0 v6_1)) := by kernel_rfl
noncomputable def f47p22 : Plan := .mk none (some f47l5) .n .n
noncomputable abbrev f47w22 {ρ : Type} (N M : Nat) (σ : St) (K : KT ρ) : Option ρ := loopC (fun σ K => f47i N (f47c 40087) .n σ K) f47l5 M σ K
theorem f47t22L {ρ : Type} (N : Nat) (K : KT ρ) : ∀ (M : Nat) (v6_2 v1 : LI) (v7 v8 v9 v2_0 v2_1 : Int) (v2_2 : LI) (v4_0 v4_1 v6_0 v6_1 : Int), f47w22 N M (f47s5 v6_2 v1 v7 v8 v9 v2_0 v2_1 v2_2 v4_0 v4_1 v6_0 v6_1) K =
  impl_RenameMatrix.Z22L N (fun v6_2 v1 v7 v2_0 v2_1 v2_2 v4_0 v4_1 v6_0 v6_1 => K (.exit 2) (f47s3 v6_2 v1 v7 v2_0 v2_1 v2_2 v4_0 v4_1 v6_0 v6_1)) M v6_2 v1 v7 v8 v9 v2_0 v2_1 v2_2 v4_0 v4_1 v6_0 v6_1
  | 0, _, _, _, _, _, _, _, _, _, _, _, _ => rfl
  | M + 1, v6_2, v1, v7, v8, v9, v2_0, v2_1, v2_2, v4_0, v4_1, v6_0, v6_1 => viaRoundS (fun k => impl_RenameMatrix.Z23 N v6_2 v1 v7 v8 v9 v2_0 v2_1 v2_2 v4_0 v4_1 v6_0 v6_1 k (fun v6_2 v1 v7 v2_0 v2_1 v2_2 v4_0 v4_1 v6_0 v6_1 => K (.exit 2) (f47s3 v6_2 v1 v7 v2_0 v2_1 v2_2 v4_0 v4_1 v6_0 v6_1))) (f47t23 N (K := seqK (fun σ => f47w22 N M σ K) K) ..) (fx12 fun v6_2 v1 v7 v8 v9 v2_0 v2_1 v2_2 v4_0 v4_1 v6_0 v6_1 => f47t22L N K M v6_2 v1 v7 v8 v9 v2_0 v2_1 v2_2 v4_0 v4_1 v6_0 v6_1) (by kernel_rfl)
theorem f47t22 N v6_2 v1 v7 v8 v9 v2_0 v2_1 v2_2 v4_0 v4_1 v6_0 v6_1 (K : KT ρ) : f47i N (f47c 23703) f47p22 (f47s5 v6_2 v1 v7 v8 v9 v2_0 v2_1 v2_2 v4_0 v4_1 v6_0 v6_1) (joinK (some f47l3) K) =
  impl_RenameMatrix.Z22 N v6_2 v1 v7 v8 v9 v2_0 v2_1 v2_2 v4_0 v4_1 v6_0 v6_1 (fun v6_2 v1 v7 v2_0 v2_1 v2_2 v4_0 v4_1 v6_0 v6_1 => K (.exit 2) (f47s3 v6_2 v1 v7 v2_0 v2_1 v2_2 v4_0 v4_1 v6_0 v6_1)) :=
 viaLoopS (by kernel_rfl) (f47t22L N (joinK (some f47l3) K) N v6_2 v1 v7 v8 v9 v2_0 v2_1 v2_2 v4_0 v4_1 v6_0 v6_1) (by kernel_rfl)
noncomputable def f47p21 : Plan := .mk (some f47l3) none f47p22 .n
theorem f47t21 N v6_2 v1 v7 v8 v9 v2_0 v2_1 v2_2 v4_0 v4_1 v6_0 v6_1 (K : KT ρ) : f47i N (f47c 15511) f47p21 (f47s5 v6_2 v1 v7 v8 v9 v2_0 v2_1 v2_2 v4_0 v4_1 v6_0 v6_1) (joinK (some f47l3) K) =
  impl_RenameMatrix.Z21 N v6_2 v1 v7 v8 v9 v2_0 v2_1 v2_2 v4_0 v4_1 v6_0 v6_1 (fun v6_2 v1 v7 v2_0 v2_1 v2_2 v4_0 v4_1 v6_0 v6_1 => K .nrm (f47s3 v6_2 v1 v7 v2_0 v2_1 v2_2 v4_0 v4_1 v6_0 v6_1)) :=
 viaBlockS (by kernel_rfl) (f47t22 N (K := blockK 2 (joinK (some f47l3) K)) ..) (by kernel_rfl)
noncomputable def f47p19 : Plan := .mk (some f47l5) none .n f47p21
theorem f47t19 N v6_2 v1 v7 v8 v2_0 v2_1 v2_2 v4_0 v4_1 v6_0 v6_1 (K : KT ρ) : f47i N (f47c 7319) f47p19 (f47s4 v6_2 v1 v7 v8 v2_0 v2_1 v2_2 v4_0 v4_1 v6_0 v6_1) (joinK (some f47l3) K) =
  impl_RenameMatrix.Z19 N v6_2 v1 v7 v8 v2_0 v2_1 v2_2 v4_0 v4_1 v6_0 v6_1 (fun v6_2 v1 v7 v2_0 v2_1 v2_2 v4_0 v4_1 v6_0 v6_1 => K .nrm (f47s3 v6_2 v1 v7 v2_0 v2_1 v2_2 v4_0 v4_1 v6_0 v6_1)) :=
 viaSeqS (fun k => impl_RenameMatrix.Z20 N v6_2 v1 v7 v8 v2_0 v2_1 v2_2 v4_0 v4_1 v6_0 v6_1 k) (by kernel_rfl) (f47t20 N (K := seqK (fun σ => f47i N (f47c 15511) f47p21 σ (joinK (some f47l3) K)) (joinK (some f47l3) K)) ..) (fx12 fun v6_2 v1 v7 v8 v9 v2_0 v2_1 v2_2 v4_0 v4_1 v6_0 v6_1 => f47t21 N v6_2 v1 v7 v8 v9 v2_0 v2_1 v2_2 v4_0 v4_1 v6_0 v6_1 K) (by kernel_rfl)
noncomputable def f47p17 : Plan := .mk (some f47l4) none .n f47p19
theorem f47t17 N v6_2 v1 v7 v8 v2_0 v2_1 v2_2 v4_0 v4_1 v6_0 v6_1 (K : KT ρ) : f47i N (f47c 3223) f47p17 (f47s4 v6_2 v1 v7 v8 v2_0 v2_1 v2_2 v4_0 v4_1 v6_0 v6_1) (joinK (some f47l3) K) =
  impl_RenameMatrix.Z17 N v6_2 v1 v7 v8 v2_0 v2_1 v2_2 v4_0 v4_1 v6_0 v6_1 (fun v6_2 v1 v7 v2_0 v2_1 v2_2 v4_0 v4_1 v6_0 v6_1 => K .nrm (f47s3 v6_2 v1 v7 v2_0 v2_1 v2_2 v4_0 v4_1 v6_0 v6_1)) :=
 viaSeqS (fun k => impl_RenameMatrix.Z18 N v6_2 v1 v7 v8 v2_0 v2_1 v2_2 v4_0 v4_1 v6_0 v6_1 k) (by kernel_rfl) (f47t18 N (K := seqK (fun σ => f47i N (f47c 7319) f47p19 σ (joinK (some f47l3) K)) (joinK (some f47l3) K)) ..) (fx11 fun v6_2 v1 v7 v8 v2_0 v2_1 v2_2 v4_0 v4_1 v6_0 v6_1 => f47t19 N v6_2 v1 v7 v8 v2_0 v2_1 v2_2 v4_0 v4_1 v6_0 v6_1 K) (by kernel_rfl)
noncomputable def f47p15 : Plan := .mk (some f47l4) none .n f47p17
theorem f47t15 N v6_2 v1 v7 v2_0 v2_1 v2_2 v4_0 v4_1 v6_0 v6_1 (K : KT ρ) : f47i N (f47c 1175) f47p15 (f47s3 v6_2 v1 v7 v2_0 v2_1 v2_2 v4_0 v4_1 v6_0 v6_1) (joinK (some f47l3) K) =
  impl_RenameMatrix.Z15 N v6_2 v1 v7 v2_0 v2_1 v2_2 v4_0 v4_1 v6_0 v6_1 (fun v6_2 v1 v7 v2_0 v2_1 v2_2 v4_0 v4_1 v6_0 v6_1 => K .nrm (f47s3 v6_2 v1 v7 v2_0 v2_1 v2_2 v4_0 v4_1 v6_0 v6_1)) :=
 viaSeqS (fun k => impl_RenameMatrix.Z16 N v6_2 v1 v7 v2_0 v2_1 v2_2 v4_0 v4_1 v6_0 v6_1 k) (by kernel_rfl) (f47t16 N (K := seqK (fun σ => f47i N (f47c 3223) f47p17 σ (joinK (some f47l3) K)) (joinK (some f47l3) K)) ..) (fx11 fun v6_2 v1 v7 v8 v2_0 v2_1 v2_2 v4_0 v4_1 v6_0 v6_1 => f47t17 N v6_2 v1 v7 v8 v2_0 v2_1 v2_2 v4_0 v4_1 v6_0 v6_1 K) (by kernel_rfl)
noncomputable def f47p14 : Plan := .mk (some f47l3) none f47p15 .n
theorem f47t14 N v6_2 v1 v7 v2_0 v2_1 v2_2 v4_0 v4_1 v6_0 v6_1 (K : KT ρ) : f47i N (f47c 663) f47p14 (f47s3 v6_2 v1 v7 v2_0 v2_1 v2_2 v4_0 v4_1 v6_0 v6_1) (joinK (some f47l3) K) =
  impl_RenameMatrix.Z14 N v6_2 v1 v7 v2_0 v2_1 v2_2 v4_0 v4_1 v6_0 v6_1 (fun v6_2 v1 v7 v2_0 v2_1 v2_2 v4_0 v4_1 v6_0 v6_1 => K .nrm (f47s3 v6_2 v1 v7 v2_0 v2_1 v2_2 v4_0 v4_1 v6_0 v6_1)) :=
 viaBlockS (by kernel_rfl) (f47t15 N (K := blockK 1 (joinK (some f47l3) K)) ..) (by kernel_rfl)
theorem f47t24 N v6_2 v1 v7 v2_0 v2_1 v2_2 v4_0 v4_1 v6_0 v6_1 (K : KT ρ) : f47i N (f47c 919) .n (f47s3 v6_2 v1 v7 v2_0 v2_1 v2_2 v4_0 v4_1 v6_0 v6_1) (joinK (some f47l3) K) =
  impl_RenameMatrix.Z24 N v6_2 v1 v7 v2_0 v2_1 v2_2 v4_0 v4_1 v6_0 v6_1 (fun v6_2 v1 v7 v2_0 v2_1 v2_2 v4_0 v4_1 v6_0 v6_1 => K .nrm (f47s3 v6_2 v1 v7 v2_0 v2_1 v2_2 v4_0 v4_1 v6_0 v6_1)) := by kernel_rfl
noncomputable def f47p13 : Plan := .mk (some f47l3) none f47p14 .n
theorem f47t13 N v6_2 v1 v7 v2_0 v2_1 v2_2 v4_0 v4_1 v6_0 v6_1 (K : KT ρ) : f47i N (f47c 407) f47p13 (f47s3 v6_2 v1 v7 v2_0 v2_1 v2_2 v4_0 v4_1 v6_0 v6_1) (joinK (some f47l3) K) =
  impl_RenameMatrix.Z13 N v6_2 v1 v7 v2_0 v2_1 v2_2 v4_0 v4_1 v6_0 v6_1 (fun v6_2 v1 v7 v2_0 v2_1 v2_2 v4_0 v4_1 v6_0 v6_1 => K .nrm (f47s3 v6_2 v1 v7 v2_0 v2_1 v2_2 v4_0 v4_1 v6_0 v6_1)) :=
 viaSeqS (fun k => impl_RenameMatrix.Z14 N v6_2 v1 v7 v2_0 v2_1 v2_2 v4_0 v4_1 v6_0 v6_1 k) (by kernel_rfl) (f47t14 N (K := seqK (fun σ => f47i N (f47c 919) .n σ (joinK (some f47l3) K)) (joinK (some f47l3) K)) ..) (fx10 fun v6_2 v1 v7 v2_0 v2_1 v2_2 v4_0 v4_1 v6_0 v6_1 => f47t24 N v6_2 v1 v7 v2_0 v2_1 v2_2 v4_0 v4_1 v6_0 v6_1 K) (by kernel_rfl)
noncomputable def f47p11 : Plan := .mk (some f47l3) none .n f47p13
theorem f47t11 N v6_2 v1 v7 v2_0 v2_1 v2_2 v4_0 v4_1 v6_0 v6_1 (K : KT ρ) : f47i N (f47c 151) f47p11 (f47s3 v6_2 v1 v7 v2_0 v2_1 v2_2 v4_0 v4_1 v6_0 v6_1) (joinK (some f47l3) K) =
  impl_RenameMatrix.Z11 N v6_2 v1 v7 v2_0 v2_1 v2_2 v4_0 v4_1 v6_0 v6_1 (fun v6_2 v1 v7 v2_0 v2_1 v2_2 v4_0 v4_1 v6_0 v6_1 => K .nrm (f47s3 v6_2 v1 v7 v2_0 v2_1 v2_2 v4_0 v4_1 v6_0 v6_1)) (fun v6_2 v4_0 v4_1 v6_0 v6_1 => K (.exit 0) (f47s6 v6_2 v4_0 v4_1 v6_0 v6_1)) :=
 viaSeqS (fun k => impl_RenameMatrix.Z12 N v6_2 v1 v7 v2_0 v2_1 v2_2 v4_0 v4_1 v6_0 v6_1 k (fun v6_2 v4_0 v4_1 v6_0 v6_1 => K (.exit 0) (f47s6 v6_2 v4_0 v4_1 v6_0 v6_1))) (by kernel_rfl) (f47t12 N (K := seqK (fun σ => f47i N (f47c 407) f47p13 σ (joinK (some f47l3) K)) (joinK (some f47l3) K)) ..) (fx10 fun v6_2 v1 v7 v2_0 v2_1 v2_2 v4_0 v4_1 v6_0 v6_1 => f47t13 N v6_2 v1 v7 v2_0 v2_1 v2_2 v4_0 v4_1 v6_0 v6_1 K) (by kernel_rfl)
noncomputable def f47p10 : Plan := .mk none (some f47l3) f47p11 .n
noncomputable abbrev f47w10 {ρ : Type} (N M : Nat) (σ : St) (K : KT ρ) : Option ρ := loopC (fun σ K => f47i N (f47c 151) f47p11 σ K) f47l3 M σ K
theorem f47t10L {ρ : Type} (N : Nat) (K : KT ρ) : ∀ (M : Nat) (v6_2 v1 : LI) (v7 v2_0 v2_1 : Int) (v2_2 : LI) (v4_0 v4_1 v6_0 v6_1 : Int), f47w10 N M (f47s3 v6_2 v1 v7 v2_0 v2_1 v2_2 v4_0 v4_1 v6_0 v6_1) K =
  impl_RenameMatrix.Z10L N (fun v6_2 v4_0 v4_1 v6_0 v6_1 => K (.exit 0) (f47s6 v6_2 v4_0 v4_1 v6_0 v6_1)) M v6_2 v1 v7 v2_0 v2_1 v2_2 v4_0 v4_1 v6_0 v6_1
  | 0, _, _, _, _, _, _, _, _, _, _ => rfl
  | M + 1, v6_2, v1, v7, v2_0, v2_1, v2_2, v4_0, v4_1, v6_0, v6_1 => viaRoundS (fun k => impl_RenameMatrix.Z11 N v6_2 v1 v7 v2_0 v2_1 v2_2 v4_0 v4_1 v6_0 v6_1 k (fun v6_2 v4_0 v4_1 v6_0 v6_1 => K (.exit 0) (f47s6 v6_2 v4_0 v4_1 v6_0 v6_1))) (f47t11 N (K := seqK (fun σ => f47w10 N M σ K) K) ..) (fx10 fun v6_2 v1 v7 v2_0 v2_1 v2_2 v4_0 v4_1 v6_0 v6_1 => f47t10L N K M v6_2 v1 v7 v2_0 v2_1 v2_2 v4_0 v4_1 v6_0 v6_1) (by kernel_rfl)
theorem f47t10 N v6_2 v1 v7 v2_0 v2_1 v2_2 v4_0 v4_1 v6_0 v6_1 (K : KT ρ) : f47i N (f47c 87) f47p10 (f47s3 v6_2 v1 v7 v2_0 v2_1 v2_2 v4_0 v4_1 v6_0 v6_1) (joinK (some f47l6) K) =
  impl_RenameMatrix.Z10 N v6_2 v1 v7 v2_0 v2_1 v2_2 v4_0 v4_1 v6_0 v6_1 (fun v6_2 v4_0 v4_1 v6_0 v6_1 => K (.exit 0) (f47s6 v6_2 v4_0 v4_1 v6_0 v6_1)) :=
 viaLoopS (by kernel_rfl) (f47t10L N (joinK (some f47l6) K) N v6_2 v1 v7 v2_0 v2_1 v2_2 v4_0 v4_1 v6_0 v6_1) (by kernel_rfl)
noncomputable def f47p9 : Plan := .mk (some f47l6) none f47p10 .n
theorem f47t9 N v6_2 v1 v7 v2_0 v2_1 v2_2 v4_0 v4_1 v6_0 v6_1 (K : KT ρ) : f47i N (f47c 55) f47p9 (f47s3 v6_2 v1 v7 v2_0 v2_1 v2_2 v4_0 v4_1 v6_0 v6_1) (joinK (some f47l6) K) =
  impl_RenameMatrix.Z9 N v6_2 v1 v7 v2_0 v2_1 v2_2 v4_0 v4_1 v6_0 v6_1 (fun v6_2 v4_0 v4_1 v6_0 v6_1 => K .nrm (f47s6 v6_2 v4_0 v4_1 v6_0 v6_1)) :=
 viaBlockS (by kernel_rfl) (f47t10 N (K := blockK 0 (joinK (some f47l6) K)) ..) (by kernel_rfl)
noncomputable def f47p7 : Plan := .mk (some f47l3) none .n f47p9
theorem f47t7 N v6_2 v1 v2_0 v2_1 v2_2 v4_0 v4_1 v6_0 v6_1 (K : KT ρ) : f47i N (f47c 23) f47p7 (f47s2 v6_2 v1 v2_0 v2_1 v2_2 v4_0 v4_1 v6_0 v6_1) (joinK (some f47l6) K) =
  impl_RenameMatrix.Z7 N v6_2 v1 v2_0 v2_1 v2_2 v4_0 v4_1 v6_0 v6_1 (fun v6_2 v4_0 v4_1 v6_0 v6_1 => K .nrm (f47s6 v6_2 v4_0 v4_1 v6_0 v6_1)) :=
 viaSeqS (fun k => impl_RenameMatrix.Z8 N v6_2 v1 v2_0 v2_1 v2_2 v4_0 v4_1 v6_0 v6_1 k) (by kernel_rfl) (f47t8 N (K := seqK (fun σ => f47i N (f47c 55) f47p9 σ (joinK (some f47l6) K)) (joinK (some f47l6) K)) ..) (fx10 fun v6_2 v1 v7 v2_0 v2_1 v2_2 v4_0 v4_1 v6_0 v6_1 => f47t9 N v6_2 v1 v7 v2_0 v2_1 v2_2 v4_0 v4_1 v6_0 v6_1 K) (by kernel_rfl)
theorem f47t25 N v6_2 v4_0 v4_1 v6_0 v6_1 (K : KT ρ) : f47i N (f47c 31) .n (f47s6 v6_2 v4_0 v4_1 v6_0 v6_1) (joinK (some f47lE) K) =
  impl_RenameMatrix.Z25 N v6_2 v4_0 v4_1 v6_0 v6_1 (fun v4_2 v5 v4_0 v4_1 => K .ret (f47s7 v4_2 v5 v4_0 v4_1)) := by kernel_rfl
noncomputable def f47p6 : Plan := .mk (some f47l6) none f47p7 .n
theorem f47t6 N v6_2 v1 v2_0 v2_1 v2_2 v4_0 v4_1 v6_0 v6_1 (K : KT ρ) : f47i N (f47c 15) f47p6 (f47s2 v6_2 v1 v2_0 v2_1 v2_2 v4_0 v4_1 v6_0 v6_1) (joinK (some f47lE) K) =
  impl_RenameMatrix.Z6 N v6_2 v1 v2_0 v2_1 v2_2 v4_0 v4_1 v6_0 v6_1 (fun v4_2 v5 v4_0 v4_1 => K .ret (f47s7 v4_2 v5 v4_0 v4_1)) :=
 viaSeqS (fun k => impl_RenameMatrix.Z7 N v6_2 v1 v2_0 v2_1 v2_2 v4_0 v4_1 v6_0 v6_1 k) (by kernel_rfl) (f47t7 N (K := seqK (fun σ => f47i N (f47c 31) .n σ (joinK (some f47lE) K)) (joinK (some f47lE) K)) ..) (fx5 fun v6_2 v4_0 v4_1 v6_0 v6_1 => f47t25 N v6_2 v4_0 v4_1 v6_0 v6_1 K) (by kernel_rfl)
noncomputable def f47p4 : Plan := .mk (some f47l2) none .n f47p6
theorem f47t4 N v1 v2_0 v2_1 v2_2 v4_0 v4_1 (K : KT ρ) : f47i N (f47c 7) f47p4 (f47s1 v1 v2_0 v2_1 v2_2 v4_0 v4_1) (joinK (some f47lE) K) =
  impl_RenameMatrix.Z4 N v1 v2_0 v2_1 v2_2 v4_0 v4_1 (fun v4_2 v5 v4_0 v4_1 => K .ret (f47s7 v4_2 v5 v4_0 v4_1)) :=
 viaSeqS (fun k => impl_RenameMatrix.Z5 N v1 v2_0 v2_1 v2_2 v4_0 v4_1 k) (by kernel_rfl) (f47t5 N (K := seqK (fun σ => f47i N (f47c 15) f47p6 σ (joinK (some f47lE) K)) (joinK (some f47lE) K)) ..) (fx9 fun v6_2 v1 v2_0 v2_1 v2_2 v4_0 v4_1 v6_0 v6_1 => f47t6 N v6_2 v1 v2_0 v2_1 v2_2 v4_0 v4_1 v6_0 v6_1 K) (by kernel_rfl)
noncomputable def f47p2 : Plan := .mk (some f47l1) none .n f47p4
theorem f47t2 N v1 v2_0 v2_1 v2_2 v4_0 v4_1 (K : KT ρ) : f47i N (f47c 3) f47p2 (f47s1 v1 v2_0 v2_1 v2_2 v4_0 v4_1) (joinK (some f47lE) K) =
  impl_RenameMatrix.Z2 N v1 v2_0 v2_1 v2_2 v4_0 v4_1 (fun v4_2 v5 v4_0 v4_1 => K .ret (f47s7 v4_2 v5 v4_0 v4_1)) :=
 viaSeqS (fun k => impl_RenameMatrix.Z3 N v1 v2_0 v2_1 v2_2 v4_0 v4_1 k (fun v4_2 v5 v4_0 v4_1 => K .ret (f47s7 v4_2 v5 v4_0 v4_1))) (by kernel_rfl) (f47t3 N (K := seqK (fun σ => f47i N (f47c 7) f47p4 σ (joinK (some f47lE) K)) (joinK (some f47lE) K)) ..) (fx6 fun v1 v2_0 v2_1 v2_2 v4_0 v4_1 => f47t4 N v1 v2_0 v2_1 v2_2 v4_0 v4_1 K) (by kernel_rfl)
noncomputable def f47p0 : Plan := .mk (some f47l1) none .n f47p2
theorem f47t0 N v0 v1 (K : KT ρ) : f47i N (f47c 1) f47p0 (f47s0 v0 v1) (joinK (some f47lE) K) =
  impl_RenameMatrix.Z0 N v0 v1 (fun v4_2 v5 v4_0 v4_1 => K .ret (f47s7 v4_2 v5 v4_0 v4_1)) :=
 viaSeqS (fun k => impl_RenameMatrix.Z1 N v0 v1 k) (by kernel_rfl) (f47t1 N (K := seqK (fun σ => f47i N (f47c 3) f47p2 σ (joinK (some f47lE) K)) (joinK (some f47lE) K)) ..) (fx6 fun v1 v2_0 v2_1 v2_2 v4_0 v4_1 => f47t2 N v1 v2_0 v2_1 v2_2 v4_0 v4_1 K) (by kernel_rfl)
theorem f47m (N : Nat) (v0 : MT) (v1 : LI) : f47i N (f47c 1) f47p0 (f47s0 v0 v1) (joinK (some f47lE) (finK tab f47sig Try.f47.results.toList)) = impl_RenameMatrix.Z0 N v0 v1 (fun v4_2 v5 v4_0 v4_1 => some ((), ((v4_0, (v4_1, v4_2)), (v5, ())))) :=
  (f47t0 N v0 v1 (finK tab f47sig Try.f47.results.toList)).trans (by kernel_rfl)
theorem f47ok (h : impl_RenameMatrix.Spec) : EntryOk Try.prog 47 e47 :=
  entry_of_code (sig := f47sig) (c := (f47c 1)) (pl := f47p0) (je := (some f47lE)) (B := f47B) Try.func47 (by kernel_rfl) (by kernel_rfl) (by kernel_rfl) tabOk f47GOk (by kernel_rfl) (by kernel_rfl) (by kernel_rfl) (by kernel_rfl) fun X hb hp => by
    obtain ⟨v0, v1, _⟩ := X
    obtain ⟨N, h⟩ := h v0 v1 hb.1 hb.2.1
    exact ⟨N, (f47m N v0 v1).trans (h N (Nat.le_refl N))⟩
theorem e47ok : EntryOk Try.prog 47 e47 := f47ok impl_RenameMatrix.ok
end Go.Fw
namespace Go.Fw
variable {ρ : Type}
open Go.Proofs
noncomputable def f132sig : Sig := ⟨[⟨.int .i64, false, false⟩], [⟨.bool, false, false⟩]⟩
noncomputable def e132 : Entry := ⟨f132sig, none, fun X => ((), ((cmp_isNaN_int.g X.1), ()))⟩
noncomputable def f132G : Gm := emptyG
theorem f132GOk : GOk Try.prog f132G := GOk.nil
noncomputable def f132lE : Clean := ⟨[], [], [], [], []⟩
noncomputable def f132s0 (v0 : Int) : St := initSt f132sig.ps (v0, ())
noncomputable def f132s1 (v2 : Bool) : St := stOf [(2, xB v2)] [] []
noncomputable def f132l1 : Clean := ⟨[2], [], [], [], []⟩
noncomputable def f132B : Nat → Option Clean := lookL [(1000000, f132l1)]
noncomputable abbrev f132i {ρ : Type} (N : Nat) (c : Code) (p : Plan) (σ : St) (K : KT ρ) : Option ρ := iCode f132G tab f132B N c p σ K
noncomputable def f132c (n : Nat) : Code := codeN 99 (bodyOf Try.f132) n
theorem f132t0 N v0 (K : KT ρ) : f132i N (f132c 1) .n (f132s0 v0) (joinK (some f132lE) K) =
  cmp_isNaN_int.Z0 N v0 (fun v2 => K .ret (f132s1 v2)) := by kernel_rfl
theorem f132m (N : Nat) (v0 : Int) : f132i N (f132c 1) .n (f132s0 v0) (joinK (some f132lE) (finK tab f132sig Try.f132.results.toList)) = cmp_isNaN_int.Z0 N v0 (fun v2 => some ((), (v2, ()))) :=
  (f132t0 N v0 (finK tab f132sig Try.f132.results.toList)).trans (by kernel_rfl)
theorem f132ok (h : cmp_isNaN_int.Spec) : EntryOk Try.prog 132 e132 :=
  entry_of_code (sig := f132sig) (c := (f132c 1)) (pl := .n) (je := (some f132lE)) (B := f132B) Try.func132 (by kernel_rfl) (by kernel_rfl) (by kernel_rfl) tabOk f132GOk (by kernel_rfl) (by kernel_rfl) (by kernel_rfl) (by kernel_rfl) fun X hb hp => by
    obtain ⟨v0, _⟩ := X
    obtain ⟨N, h⟩ := h v0
    exact ⟨N, (f132m N v0).trans (h N (Nat.le_refl N))⟩
theorem e132ok : EntryOk Try.prog 132 e132 := f132ok cmp_isNaN_int.ok
end Go.Fw
namespace Go.Fw
variable {ρ : Type}
open Go.Proofs
noncomputable def f114sig : Sig := ⟨[⟨.int .i64, false, false⟩, ⟨.int .i64, false, false⟩], [⟨.int .i64, false, false⟩]⟩
noncomputable def e114 : Entry := ⟨f114sig, none, fun X => ((), ((cmp_Compare_int.g X.1 X.2.1), ()))⟩
noncomputable def f114G : Gm := addG emptyG 132 e132
theorem f114GOk : GOk Try.prog f114G := (GOk.nil).add e132ok (by kernel_rfl)
noncomputable def f114lE : Clean := ⟨[], [], [], [], []⟩
noncomputable def f114s0 (v0 v1 : Int) : St := initSt f114sig.ps (v0, (v1, ()))
noncomputable def f114s1 (v4 : Int) : St := stOf [(4, xi v4)] [] []
noncomputable def f114l1 : Clean := ⟨[4], [], [], [], []⟩
noncomputable def f114B : Nat → Option Clean := lookL [(1000000, f114l1)]
noncomputable abbrev f114i {ρ : Type} (N : Nat) (c : Code) (p : Plan) (σ : St) (K : KT ρ) : Option ρ := iCode f114G tab f114B N c p σ K
noncomputable def f114c (n : Nat) : Code := codeN 99 (bodyOf Try.f114) n
theorem f114t0 N v0 v1 (K : KT ρ) : f114i N (f114c 1) .n (f114s0 v0 v1) (joinK (some f114lE) K) =
  cmp_Compare_int.Z0 N v0 v1 (fun v4 => K .ret (f114s1 v4)) := by kernel_rfl
theorem f114m (N : Nat) (v0 v1 : Int) : f114i N (f114c 1) .n (f114s0 v0 v1) (joinK (some f114lE) (finK tab f114sig Try.f114.results.toList)) = cmp_Compare_int.Z0 N v0 v1 (fun v4 => some ((), (v4, ()))) :=
  (f114t0 N v0 v1 (finK tab f114sig Try.f114.results.toList)).trans (by kernel_rfl)
theorem f114ok (h : cmp_Compare_int.Spec) : EntryOk Try.prog 114 e114 :=
  entry_of_code (sig := f114sig) (c := (f114c 1)) (pl := .n) (je := (some f114lE)) (B := f114B) Try.func114 (by kernel_rfl) (by kernel_rfl) (by kernel_rfl) tabOk f114GOk (by kernel_rfl) (by kernel_rfl) (by kernel_rfl) (by kernel_rfl) fun X hb hp => by
    obtain ⟨v0, v1, _⟩ := X
    obtain ⟨N, h⟩ := h v0 v1
    exact ⟨N, (f114m N v0 v1).trans (h N (Nat.le_refl N))⟩
theorem e114ok : EntryOk Try.prog 114 e114 := f114ok cmp_Compare_int.ok
end Go.Fw
namespace Go.Fw
variable {ρ : Type}
open Go.Proofs
noncomputable def f87sig : Sig := ⟨[⟨.sl 3 (.int .i64), false, false⟩, ⟨.sl 3 (.int .i64), false, false⟩], [⟨.int .i64, false, false⟩]⟩
noncomputable def e87 : Entry := ⟨f87sig, none, fun X => ((), ((slices_Compare_int_int.g X.1 X.2.1), ()))⟩
noncomputable def f87G : Gm := addG emptyG 114 e114
theorem f87GOk : GOk Try.prog f87G := (GOk.nil).add e114ok (by kernel_rfl)
noncomputable def f87lE : Clean := ⟨[], [], [], [], []⟩
noncomputable def f87s0 (v0 v1 : LI) : St := initSt f87sig.ps (v0, (v1, ()))
noncomputable def f87s1 (v0 v1 : LI) : St := stOf [(0, .c (.sn 3 tI v0 none)), (1, .c (.sn 3 tI v1 none))] [] []
noncomputable def f87l1 : Clean := ⟨[0, 1], [], [], [], []⟩
noncomputable def f87s2 (v0 v1 v9 : LI) (v10 v11 : Int) : St := stOf [(0, .c (.sn 3 tI v0 none)), (1, .c (.sn 3 tI v1 none)), (9, .c (.sn 3 tI v9 none)), (10, xi v10), (11, xi v11)] [] []
noncomputable def f87l2 : Clean := ⟨[0, 1, 9, 10, 11], [], [], [], []⟩
noncomputable def f87s3 (v4 : Int) : St := stOf [(4, xi v4)] [] []
noncomputable def f87l3 : Clean := ⟨[4], [], [], [], []⟩
noncomputable def f87B : Nat → Option Clean := lookL [(0, f87l1), (1000000, f87l3)]
noncomputable abbrev f87i {ρ : Type} (N : Nat) (c : Code) (p : Plan) (σ : St) (K : KT ρ) : Option ρ := iCode f87G tab f87B N c p σ K
noncomputable def f87c (n : Nat) : Code := codeN 99 (bodyOf Try.f87) n
theorem f87t1 N v0 v1 (K : KT ρ) : f87i N (f87c 2) .n (f87s0 v0 v1) (joinK (some f87l1) K) =
  slices_Compare_int_int.Z1 N v0 v1 (fun v0 v1 => K .nrm (f87s1 v0 v1)) := by kernel_rfl
theorem f87t4 N v0 v1 (K : KT ρ) : f87i N (f87c 9) .n (f87s1 v0 v1) (joinK (some f87l2) K) =
  slices_Compare_int_int.Z4 N v0 v1 (fun v0 v1 v9 v10 v11 => K .nrm (f87s2 v0 v1 v9 v10 v11)) := by kernel_rfl
theorem f87t7 N v0 v1 v9 v10 v11 (K : KT ρ) : f87i N (f87c 37) .n (f87s2 v0 v1 v9 v10 v11) (joinK (some f87l2) K) =
  slices_Compare_int_int.Z7 N v0 v1 v9 v10 v11 (fun v0 v1 v9 v10 v11 => K .nrm (f87s2 v0 v1 v9 v10 v11)) (fun v0 v1 => K (.exit 0) (f87s1 v0 v1)) (fun v4 => K .ret (f87s3 v4)) := by kernel_rfl
noncomputable def f87p6 : Plan := .mk none (some f87l2) .n .n
noncomputable abbrev f87w6 {ρ : Type} (N M : Nat) (σ : St) (K : KT ρ) : Option ρ := loopC (fun σ K => f87i N (f87c 37) .n σ K) f87l2 M σ K
theorem f87t6L {ρ : Type} (N : Nat) (K : KT ρ) : ∀ (M : Nat) (v0 v1 v9 : LI) (v10 v11 : Int), f87w6 N M (f87s2 v0 v1 v9 v10 v11) K =
  slices_Compare_int_int.Z6L N (fun v0 v1 => K (.exit 0) (f87s1 v0 v1)) (fun v4 => K .ret (f87s3 v4)) M v0 v1 v9 v10 v11
  | 0, _, _, _, _, _ => rfl
  | M + 1, v0, v1, v9, v10, v11 => viaRoundS (fun k => slices_Compare_int_int.Z7 N v0 v1 v9 v10 v11 k (fun v0 v1 => K (.exit 0) (f87s1 v0 v1)) (fun v4 => K .ret (f87s3 v4))) (f87t7 N (K := seqK (fun σ => f87w6 N M σ K) K) ..) (fx5 fun v0 v1 v9 v10 v11 => f87t6L N K M v0 v1 v9 v10 v11) (by kernel_rfl)
theorem f87t6 N v0 v1 v9 v10 v11 (K : KT ρ) : f87i N (f87c 21) f87p6 (f87s2 v0 v1 v9 v10 v11) (joinK (some f87l1) K) =
  slices_Compare_int_int.Z6 N v0 v1 v9 v10 v11 (fun v0 v1 => K (.exit 0) (f87s1 v0 v1)) (fun v4 => K .ret (f87s3 v4)) :=
 viaLoopS (by kernel_rfl) (f87t6L N (joinK (some f87l1) K) N v0 v1 v9 v10 v11) (by kernel_rfl)
noncomputable def f87p5 : Plan := .mk (some f87l1) none f87p6 .n
theorem f87t5 N v0 v1 v9 v10 v11 (K : KT ρ) : f87i N (f87c 13) f87p5 (f87s2 v0 v1 v9 v10 v11) (joinK (some f87l1) K) =
  slices_Compare_int_int.Z5 N v0 v1 v9 v10 v11 (fun v0 v1 => K .nrm (f87s1 v0 v1)) (fun v4 => K .ret (f87s3 v4)) :=
 viaBlockS (by kernel_rfl) (f87t6 N (K := blockK 0 (joinK (some f87l1) K)) ..) (by kernel_rfl)
noncomputable def f87p3 : Plan := .mk (some f87l2) none .n f87p5
theorem f87t3 N v0 v1 (K : KT ρ) : f87i N (f87c 5) f87p3 (f87s1 v0 v1) (joinK (some f87l1) K) =
  slices_Compare_int_int.Z3 N v0 v1 (fun v0 v1 => K .nrm (f87s1 v0 v1)) (fun v4 => K .ret (f87s3 v4)) :=
 viaSeqS (fun k => slices_Compare_int_int.Z4 N v0 v1 k) (by kernel_rfl) (f87t4 N (K := seqK (fun σ => f87i N (f87c 13) f87p5 σ (joinK (some f87l1) K)) (joinK (some f87l1) K)) ..) (fx5 fun v0 v1 v9 v10 v11 => f87t5 N v0 v1 v9 v10 v11 K) (by kernel_rfl)
theorem f87t8 N v0 v1 (K : KT ρ) : f87i N (f87c 7) .n (f87s1 v0 v1) (joinK (some f87lE) K) =
  slices_Compare_int_int.Z8 N v0 v1 (fun v4 => K .ret (f87s3 v4)) := by kernel_rfl
noncomputable def f87p2 : Plan := .mk (some f87l1) none f87p3 .n
theorem f87t2 N v0 v1 (K : KT ρ) : f87i N (f87c 3) f87p2 (f87s1 v0 v1) (joinK (some f87lE) K) =
  slices_Compare_int_int.Z2 N v0 v1 (fun v4 => K .ret (f87s3 v4)) :=
 viaSeqS (fun k => slices_Compare_int_int.Z3 N v0 v1 k (fun v4 => K .ret (f87s3 v4))) (by kernel_rfl) (f87t3 N (K := seqK (fun σ => f87i N (f87c 7) .n σ (joinK (some f87lE) K)) (joinK (some f87lE) K)) ..) (fx2 fun v0 v1 => f87t8 N v0 v1 K) (by kernel_rfl)
noncomputable def f87p0 : Plan := .mk (some f87l1) none .n f87p2
theorem f87t0 N v0 v1 (K : KT ρ) : f87i N (f87c 1) f87p0 (f87s0 v0 v1) (joinK (some f87lE) K) =
  slices_Compare_int_int.Z0 N v0 v1 (fun v4 => K .ret (f87s3 v4)) :=
 viaSeqS (fun k => slices_Compare_int_int.Z1 N v0 v1 k) (by kernel_rfl) (f87t1 N (K := seqK (fun σ => f87i N (f87c 3) f87p2 σ (joinK (some f87lE) K)) (joinK (some f87lE) K)) ..) (fx2 fun v0 v1 => f87t2 N v0 v1 K) (by kernel_rfl)
theorem f87m (N : Nat) (v0 v1 : LI) : f87i N (f87c 1) f87p0 (f87s0 v0 v1) (joinK (some f87lE) (finK tab f87sig Try.f87.results.toList)) = slices_Compare_int_int.Z0 N v0 v1 (fun v4 => some ((), (v4, ()))) :=
  (f87t0 N v0 v1 (finK tab f87sig Try.f87.results.toList)).trans (by kernel_rfl)
theorem f87ok (h : slices_Compare_int_int.Spec) : EntryOk Try.prog 87 e87 :=
  entry_of_code (sig := f87sig) (c := (f87c 1)) (pl := f87p0) (je := (some f87lE)) (B := f87B) Try.func87 (by kernel_rfl) (by kernel_rfl) (by kernel_rfl) tabOk f87GOk (by kernel_rfl) (by kernel_rfl) (by kernel_rfl) (by kernel_rfl) fun X hb hp => by
    obtain ⟨v0, v1, _⟩ := X
    obtain ⟨N, h⟩ := h v0 v1 hb.1 hb.2.1
    exact ⟨N, (f87m N v0 v1).trans (h N (Nat.le_refl N))⟩
theorem e87ok : EntryOk Try.prog 87 e87 := f87ok slices_Compare_int_int.ok
end Go.Fw
namespace Go.Fw
variable {ρ : Type}
open Go.Proofs
noncomputable def f43sig : Sig := ⟨[⟨.pair (.int .i64) (.pair (.int .i64) (.sl 3 (.int .i64))), true, false⟩], [⟨.pair (.int .i64) (.pair (.int .i64) (.sl 3 (.int .i64))), true, false⟩, ⟨.bool, false, false⟩]⟩
noncomputable def e43 : Entry := ⟨f43sig, none, fun X => ((), ((impl_CanonicalMatrix.g X.1).1, ((impl_CanonicalMatrix.g X.1).2, ())))⟩
noncomputable def f43G : Gm := addG (addG (addG (addG emptyG 31 e31) 47 e47) 86 e86) 87 e87
theorem f43GOk : GOk Try.prog f43G := ((((GOk.nil).add e31ok (by kernel_rfl)).add e47ok (by kernel_rfl)).add e86ok (by kernel_rfl)).add e87ok (by kernel_rfl)
noncomputable def f43lE : Clean := ⟨[], [], [], [], []⟩
noncomputable def f43s0 (v0 : MT) : St := initSt f43sig.ps (v0, ())
noncomputable def f43s1 (v1_0 v1_1 : Int) (v1_2 : LI) (v2_0 v2_1 : Int) : St := stOf [(1, xb 1), (2, xb 2)] [(1, (30, [yi v1_0, yi v1_1, .sn 3 tI v1_2 none])), (2, (30, [yi v2_0, yi v2_1, .nil]))] []
noncomputable def f43l1 : Clean := ⟨[1, 2], [1, 2], [], [], []⟩
noncomputable def f43s2 (v1_0 v1_1 : Int) (v1_2 : LI) (v2_0 v2_1 v4_0 v4_1 : Int) (v4_2 : LI) : St := stOf [(1, xb 1), (2, xb 2), (4, xb 4)] [(1, (30, [yi v1_0, yi v1_1, .sn 3 tI v1_2 none])), (2, (30, [yi v2_0, yi v2_1, .nil])), (4, (30, [yi v4_0, yi v4_1, .sn 3 tI v4_2 none]))] []
noncomputable def f43l2 : Clean := ⟨[1, 2, 4], [1, 2, 4], [], [], []⟩
noncomputable def f43s3 (v23 : LL) (v24 v25 v1_0 v1_1 : Int) (v1_2 : LI) (v2_0 v2_1 v4_0 v4_1 : Int) (v4_2 : LI) : St := stOf [(1, xb 1), (2, xb 2), (4, xb 4), (23, xo 1001472), (24, xi v24), (25, xi v25)] [(1, (30, [yi v1_0, yi v1_1, .sn 3 tI v1_2 none])), (2, (30, [yi v2_0, yi v2_1, .nil])), (4, (30, [yi v4_0, yi v4_1, .sn 3 tI v4_2 none]))] [(1001472, (⟨22, .sl 3 tI, v23, true, false⟩ : Row))]
noncomputable def f43l3 : Clean := ⟨[1, 2, 4, 23, 24, 25], [1, 2, 4], [], [], [(⟨false, 23, 0⟩, 1001472)]⟩
noncomputable def f43s4 (v23 : LL) (v4_2 : LI) (v24 v25 v1_0 v1_1 : Int) (v1_2 : LI) (v2_0 v2_1 v4_0 v4_1 : Int) : St := stOf [(1, xb 1), (2, xb 2), (4, xb 4), (23, xo 1001472), (24, xi v24), (25, xi v25)] [(1, (30, [yi v1_0, yi v1_1, .sn 3 tI v1_2 none])), (2, (30, [yi v2_0, yi v2_1, .nil])), (4, (30, [yi v4_0, yi v4_1, .own 20000258]))] [(1001472, (⟨22, .sl 3 tI, v23, true, false⟩ : Row)), (20000258, (⟨3, .int .i64, v4_2, true, false⟩ : Row))]
noncomputable def f43l4 : Clean := ⟨[1, 2, 4, 23, 24, 25], [1, 2, 4], [], [], [(⟨false, 23, 0⟩, 1001472), (⟨true, 4, 2⟩, 20000258)]⟩
noncomputable def f43s5 (v4_2 : LI) (v2_0 v2_1 v4_0 v4_1 : Int) : St := stOf [(2, xb 2), (4, xb 4)] [(2, (30, [yi v2_0, yi v2_1, .nil])), (4, (30, [yi v4_0, yi v4_1, .own 20000258]))] [(20000258, (⟨3, .int .i64, v4_2, true, false⟩ : Row))]
noncomputable def f43l5 : Clean := ⟨[2, 4], [2, 4], [], [], [(⟨true, 4, 2⟩, 20000258)]⟩
noncomputable def f43s6 (v2_2 : LI) (v3 : Bool) (v2_0 v2_1 : Int) : St := stOf [(2, xb 2), (3, xB v3)] [(2, (30, [yi v2_0, yi v2_1, .own 20000130]))] [(20000130, (⟨3, .int .i64, v2_2, true, false⟩ : Row))]
noncomputable def f43l6 : Clean := ⟨[2, 3], [2], [⟨⟨true, 2, 2⟩, 30000000, 3, .int .i64, true⟩], [], [(⟨true, 2, 2⟩, 20000130)]⟩
noncomputable def f43B : Nat → Option Clean := lookL [(0, f43l5), (1000000, f43l6)]
noncomputable abbrev f43i {ρ : Type} (N : Nat) (c : Code) (p : Plan) (σ : St) (K : KT ρ) : Option ρ := iCode f43G tab f43B N c p σ K
noncomputable def f43c (n : Nat) : Code := codeN 99 (bodyOf Try.f43) n
theorem f43t1 N v0 (K : KT ρ) : f43i N (f43c 2) .n (f43s0 v0) (joinK (some f43l1) K) =
  impl_CanonicalMatrix.Z1 N v0 (fun v1_0 v1_1 v1_2 v2_0 v2_1 => K .nrm (f43s1 v1_0 v1_1 v1_2 v2_0 v2_1)) := by kernel_rfl
theorem f43t3 N v1_0 v1_1 v1_2 v2_0 v2_1 (K : KT ρ) : f43i N (f43c 5) .n (f43s1 v1_0 v1_1 v1_2 v2_0 v2_1) (joinK (some f43l1) K) =
  impl_CanonicalMatrix.Z3 N v1_0 v1_1 v1_2 v2_0 v2_1 (fun v1_0 v1_1 v1_2 v2_0 v2_1 => K .nrm (f43s1 v1_0 v1_1 v1_2 v2_0 v2_1)) (fun v2_2 v3 v2_0 v2_1 => K .ret (f43s6 v2_2 v3 v2_0 v2_1)) := by kernel_rfl
theorem f43t5 N v1_0 v1_1 v1_2 v2_0 v2_1 (K : KT ρ) : f43i N (f43c 11) .n (f43s1 v1_0 v1_1 v1_2 v2_0 v2_1) (joinK (some f43l2) K) =
  impl_CanonicalMatrix.Z5 N v1_0 v1_1 v1_2 v2_0 v2_1 (fun v1_0 v1_1 v1_2 v2_0 v2_1 v4_0 v4_1 v4_2 => K .nrm (f43s2 v1_0 v1_1 v1_2 v2_0 v2_1 v4_0 v4_1 v4_2)) := by kernel_rfl
theorem f43t8 N v1_0 v1_1 v1_2 v2_0 v2_1 v4_0 v4_1 v4_2 (K : KT ρ) : f43i N (f43c 39) .n (f43s2 v1_0 v1_1 v1_2 v2_0 v2_1 v4_0 v4_1 v4_2) (joinK (some f43l3) K) =
  impl_CanonicalMatrix.Z8 N v1_0 v1_1 v1_2 v2_0 v2_1 v4_0 v4_1 v4_2 (fun v23 v24 v25 v1_0 v1_1 v1_2 v2_0 v2_1 v4_0 v4_1 v4_2 => K .nrm (f43s3 v23 v24 v25 v1_0 v1_1 v1_2 v2_0 v2_1 v4_0 v4_1 v4_2)) := by kernel_rfl
theorem f43t11 N v23 v4_2 v24 v25 v1_0 v1_1 v1_2 v2_0 v2_1 v4_0 v4_1 (K : KT ρ) : f43i N (f43c 151) .n (f43s4 v23 v4_2 v24 v25 v1_0 v1_1 v1_2 v2_0 v2_1 v4_0 v4_1) (joinK (some f43l4) K) =
  impl_CanonicalMatrix.Z11 N v23 v4_2 v24 v25 v1_0 v1_1 v1_2 v2_0 v2_1 v4_0 v4_1 (fun v23 v4_2 v24 v25 v1_0 v1_1 v1_2 v2_0 v2_1 v4_0 v4_1 => K .nrm (f43s4 v23 v4_2 v24 v25 v1_0 v1_1 v1_2 v2_0 v2_1 v4_0 v4_1)) (fun v4_2 v2_0 v2_1 v4_0 v4_1 => K (.exit 0) (f43s5 v4_2 v2_0 v2_1 v4_0 v4_1)) := by kernel_rfl
theorem f43t12 N v23 v24 v25 v1_0 v1_1 v1_2 v2_0 v2_1 v4_0 v4_1 v4_2 (K : KT ρ) : f43i N (f43c 151) .n (f43s3 v23 v24 v25 v1_0 v1_1 v1_2 v2_0 v2_1 v4_0 v4_1 v4_2) (joinK (some f43l4) K) =
  impl_CanonicalMatrix.Z12 N v23 v24 v25 v1_0 v1_1 v1_2 v2_0 v2_1 v4_0 v4_1 v4_2 (fun v23 v4_2 v24 v25 v1_0 v1_1 v1_2 v2_0 v2_1 v4_0 v4_1 => K .nrm (f43s4 v23 v4_2 v24 v25 v1_0 v1_1 v1_2 v2_0 v2_1 v4_0 v4_1)) (fun v4_2 v2_0 v2_1 v4_0 v4_1 => K (.exit 0) (f43s5 v4_2 v2_0 v2_1 v4_0 v4_1)) := by kernel_rfl
noncomputable def f43p10 : Plan := .mk (some f43l3) (some f43l4) .n .n
noncomputable abbrev f43w10 {ρ : Type} (N M : Nat) (σ : St) (K : KT ρ) : Option ρ := loopC (fun σ K => f43i N (f43c 151) .n σ K) f43l4 M σ K
theorem f43t10L {ρ : Type} (N : Nat) (K : KT ρ) : ∀ (M : Nat) (v23 : LL) (v4_2 : LI) (v24 v25 v1_0 v1_1 : Int) (v1_2 : LI) (v2_0 v2_1 v4_0 v4_1 : Int), f43w10 N M (f43s4 v23 v4_2 v24 v25 v1_0 v1_1 v1_2 v2_0 v2_1 v4_0 v4_1) K =
  impl_CanonicalMatrix.Z10L N (fun v4_2 v2_0 v2_1 v4_0 v4_1 => K (.exit 0) (f43s5 v4_2 v2_0 v2_1 v4_0 v4_1)) M v23 v4_2 v24 v25 v1_0 v1_1 v1_2 v2_0 v2_1 v4_0 v4_1
  | 0, _, _, _, _, _, _, _, _, _, _, _ => rfl
  | M + 1, v23, v4_2, v24, v25, v1_0, v1_1, v1_2, v2_0, v2_1, v4_0, v4_1 => viaRoundS (fun k => impl_CanonicalMatrix.Z11 N v23 v4_2 v24 v25 v1_0 v1_1 v1_2 v2_0 v2_1 v4_0 v4_1 k (fun v4_2 v2_0 v2_1 v4_0 v4_1 => K (.exit 0) (f43s5 v4_2 v2_0 v2_1 v4_0 v4_1))) (f43t11 N (K := seqK (fun σ => f43w10 N M σ K) K) ..) (fx11 fun v23 v4_2 v24 v25 v1_0 v1_1 v1_2 v2_0 v2_1 v4_0 v4_1 => f43t10L N K M v23 v4_2 v24 v25 v1_0 v1_1 v1_2 v2_0 v2_1 v4_0 v4_1) (by kernel_rfl)
theorem f43t10 N v23 v24 v25 v1_0 v1_1 v1_2 v2_0 v2_1 v4_0 v4_1 v4_2 (K : KT ρ) : f43i N (f43c 87) f43p10 (f43s3 v23 v24 v25 v1_0 v1_1 v1_2 v2_0 v2_1 v4_0 v4_1 v4_2) (joinK (some f43l5) K) =
  impl_CanonicalMatrix.Z10 N v23 v24 v25 v1_0 v1_1 v1_2 v2_0 v2_1 v4_0 v4_1 v4_2 (fun v4_2 v2_0 v2_1 v4_0 v4_1 => K (.exit 0) (f43s5 v4_2 v2_0 v2_1 v4_0 v4_1)) :=
 viaPeelS (cl1 := f43l3) (fun k => impl_CanonicalMatrix.Z12 N v23 v24 v25 v1_0 v1_1 v1_2 v2_0 v2_1 v4_0 v4_1 v4_2 k (fun v4_2 v2_0 v2_1 v4_0 v4_1 => K (.exit 0) (f43s5 v4_2 v2_0 v2_1 v4_0 v4_1))) (by kernel_rfl) (f43t12 N v23 v24 v25 v1_0 v1_1 v1_2 v2_0 v2_1 v4_0 v4_1 v4_2 (seqK (fun σ => f43w10 N N σ (joinK (some f43l5) K)) (joinK (some f43l5) K))) (fx11 fun v23 v4_2 v24 v25 v1_0 v1_1 v1_2 v2_0 v2_1 v4_0 v4_1 => f43t10L N (joinK (some f43l5) K) N v23 v4_2 v24 v25 v1_0 v1_1 v1_2 v2_0 v2_1 v4_0 v4_1) (by kernel_rfl)
noncomputable def f43p9 : Plan := .mk (some f43l5) none f43p10 .n
theorem f43t9 N v23 v24 v25 v1_0 v1_1 v1_2 v2_0 v2_1 v4_0 v4_1 v4_2 (K : KT ρ) : f43i N (f43c 55) f43p9 (f43s3 v23 v24 v25 v1_0 v1_1 v1_2 v2_0 v2_1 v4_0 v4_1 v4_2) (joinK (some f43l5) K) =
  impl_CanonicalMatrix.Z9 N v23 v24 v25 v1_0 v1_1 v1_2 v2_0 v2_1 v4_0 v4_1 v4_2 (fun v4_2 v2_0 v2_1 v4_0 v4_1 => K .nrm (f43s5 v4_2 v2_0 v2_1 v4_0 v4_1)) :=
 viaBlockS (by kernel_rfl) (f43t10 N (K := blockK 0 (joinK (some f43l5) K)) ..) (by kernel_rfl)
noncomputable def f43p7 : Plan := .mk (some f43l3) none .n f43p9
theorem f43t7 N v1_0 v1_1 v1_2 v2_0 v2_1 v4_0 v4_1 v4_2 (K : KT ρ) : f43i N (f43c 23) f43p7 (f43s2 v1_0 v1_1 v1_2 v2_0 v2_1 v4_0 v4_1 v4_2) (joinK (some f43l5) K) =
  impl_CanonicalMatrix.Z7 N v1_0 v1_1 v1_2 v2_0 v2_1 v4_0 v4_1 v4_2 (fun v4_2 v2_0 v2_1 v4_0 v4_1 => K .nrm (f43s5 v4_2 v2_0 v2_1 v4_0 v4_1)) :=
 viaSeqS (fun k => impl_CanonicalMatrix.Z8 N v1_0 v1_1 v1_2 v2_0 v2_1 v4_0 v4_1 v4_2 k) (by kernel_rfl) (f43t8 N (K := seqK (fun σ => f43i N (f43c 55) f43p9 σ (joinK (some f43l5) K)) (joinK (some f43l5) K)) ..) (fx11 fun v23 v24 v25 v1_0 v1_1 v1_2 v2_0 v2_1 v4_0 v4_1 v4_2 => f43t9 N v23 v24 v25 v1_0 v1_1 v1_2 v2_0 v2_1 v4_0 v4_1 v4_2 K) (by kernel_rfl)
theorem f43t13 N v4_2 v2_0 v2_1 v4_0 v4_1 (K : KT ρ) : f43i N (f43c 31) .n (f43s5 v4_2 v2_0 v2_1 v4_0 v4_1) (joinK (some f43lE) K) =
  impl_CanonicalMatrix.Z13 N v4_2 v2_0 v2_1 v4_0 v4_1 (fun v2_2 v3 v2_0 v2_1 => K .ret (f43s6 v2_2 v3 v2_0 v2_1)) := by kernel_rfl
noncomputable def f43p6 : Plan := .mk (some f43l5) none f43p7 .n
theorem f43t6 N v1_0 v1_1 v1_2 v2_0 v2_1 v4_0 v4_1 v4_2 (K : KT ρ) : f43i N (f43c 15) f43p6 (f43s2 v1_0 v1_1 v1_2 v2_0 v2_1 v4_0 v4_1 v4_2) (joinK (some f43lE) K) =
  impl_CanonicalMatrix.Z6 N v1_0 v1_1 v1_2 v2_0 v2_1 v4_0 v4_1 v4_2 (fun v2_2 v3 v2_0 v2_1 => K .ret (f43s6 v2_2 v3 v2_0 v2_1)) :=
 viaSeqS (fun k => impl_CanonicalMatrix.Z7 N v1_0 v1_1 v1_2 v2_0 v2_1 v4_0 v4_1 v4_2 k) (by kernel_rfl) (f43t7 N (K := seqK (fun σ => f43i N (f43c 31) .n σ (joinK (some f43lE) K)) (joinK (some f43lE) K)) ..) (fx5 fun v4_2 v2_0 v2_1 v4_0 v4_1 => f43t13 N v4_2 v2_0 v2_1 v4_0 v4_1 K) (by kernel_rfl)
noncomputable def f43p4 : Plan := .mk (some f43l2) none .n f43p6
theorem f43t4 N v1_0 v1_1 v1_2 v2_0 v2_1 (K : KT ρ) : f43i N (f43c 7) f43p4 (f43s1 v1_0 v1_1 v1_2 v2_0 v2_1) (joinK (some f43lE) K) =
  impl_CanonicalMatrix.Z4 N v1_0 v1_1 v1_2 v2_0 v2_1 (fun v2_2 v3 v2_0 v2_1 => K .ret (f43s6 v2_2 v3 v2_0 v2_1)) :=
 viaSeqS (fun k => impl_CanonicalMatrix.Z5 N v1_0 v1_1 v1_2 v2_0 v2_1 k) (by kernel_rfl) (f43t5 N (K := seqK (fun σ => f43i N (f43c 15) f43p6 σ (joinK (some f43lE) K)) (joinK (some f43lE) K)) ..) (fx8 fun v1_0 v1_1 v1_2 v2_0 v2_1 v4_0 v4_1 v4_2 => f43t6 N v1_0 v1_1 v1_2 v2_0 v2_1 v4_0 v4_1 v4_2 K) (by kernel_rfl)
noncomputable def f43p2 : Plan := .mk (some f43l1) none .n f43p4
theorem f43t2 N v1_0 v1_1 v1_2 v2_0 v2_1 (K : KT ρ) : f43i N (f43c 3) f43p2 (f43s1 v1_0 v1_1 v1_2 v2_0 v2_1) (joinK (some f43lE) K) =
  impl_CanonicalMatrix.Z2 N v1_0 v1_1 v1_2 v2_0 v2_1 (fun v2_2 v3 v2_0 v2_1 => K .ret (f43s6 v2_2 v3 v2_0 v2_1)) :=
 viaSeqS (fun k => impl_CanonicalMatrix.Z3 N v1_0 v1_1 v1_2 v2_0 v2_1 k (fun v2_2 v3 v2_0 v2_1 => K .ret (f43s6 v2_2 v3 v2_0 v2_1))) (by kernel_rfl) (f43t3 N (K := seqK (fun σ => f43i N (f43c 7) f43p4 σ (joinK (some f43lE) K)) (joinK (some f43lE) K)) ..) (fx5 fun v1_0 v1_1 v1_2 v2_0 v2_1 => f43t4 N v1_0 v1_1 v1_2 v2_0 v2_1 K) (by kernel_rfl)
noncomputable def f43p0 : Plan := .mk (some f43l1) none .n f43p2
theorem f43t0 N v0 (K : KT ρ) : f43i N (f43c 1) f43p0 (f43s0 v0) (joinK (some f43lE) K) =
  impl_CanonicalMatrix.Z0 N v0 (fun v2_2 v3 v2_0 v2_1 => K .ret (f43s6 v2_2 v3 v2_0 v2_1)) :=
 viaSeqS (fun k => impl_CanonicalMatrix.Z1 N v0 k) (by kernel_rfl) (f43t1 N (K := seqK (fun σ => f43i N (f43c 3) f43p2 σ (joinK (some f43lE) K)) (joinK (some f43lE) K)) ..) (fx5 fun v1_0 v1_1 v1_2 v2_0 v2_1 => f43t2 N v1_0 v1_1 v1_2 v2_0 v2_1 K) (by kernel_rfl)
theorem f43m (N : Nat) (v0 : MT) : f43i N (f43c 1) f43p0 (f43s0 v0) (joinK (some f43lE) (finK tab f43sig Try.f43.results.toList)) = impl_CanonicalMatrix.Z0 N v0 (fun v2_2 v3 v2_0 v2_1 => some ((), ((v2_0, (v2_1, v2_2)), (v3, ())))) :=
  (f43t0 N v0 (finK tab f43sig Try.f43.results.toList)).trans (by kernel_rfl)
theorem f43ok (h : impl_CanonicalMatrix.Spec) : EntryOk Try.prog 43 e43 :=
  entry_of_code (sig := f43sig) (c := (f43c 1)) (pl := f43p0) (je := (some f43lE)) (B := f43B) Try.func43 (by kernel_rfl) (by kernel_rfl) (by kernel_rfl) tabOk f43GOk (by kernel_rfl) (by kernel_rfl) (by kernel_rfl) (by kernel_rfl) fun X hb hp => by
    obtain ⟨v0, _⟩ := X
    obtain ⟨N, h⟩ := h v0 hb.1
    exact ⟨N, (f43m N v0).trans (h N (Nat.le_refl N))⟩
theorem e43ok : EntryOk Try.prog 43 e43 := f43ok impl_CanonicalMatrix.ok
end Go.Fw
namespace Go.Fw
variable {ρ : Type}
open Go.Proofs
noncomputable def f115sig : Sig := ⟨[⟨.sl 3 (.int .i64), false, false⟩, ⟨.sl 3 (.int .i64), false, false⟩], [⟨.bool, false, false⟩]⟩
noncomputable def e115 : Entry := ⟨f115sig, none, fun X => ((), ((slices_Equal_int_int.g X.1 X.2.1), ()))⟩
noncomputable def f115G : Gm := emptyG
theorem f115GOk : GOk Try.prog f115G := GOk.nil
noncomputable def f115lE : Clean := ⟨[], [], [], [], []⟩
noncomputable def f115s0 (v0 v1 : LI) : St := initSt f115sig.ps (v0, (v1, ()))
noncomputable def f115s1 (v0 v1 : LI) : St := stOf [(0, .c (.sn 3 tI v0 none)), (1, .c (.sn 3 tI v1 none))] [] []
noncomputable def f115l1 : Clean := ⟨[0, 1], [], [], [], []⟩
noncomputable def f115s2 (v0 v1 : LI) (v12 v13 : Int) : St := stOf [(0, .c (.sn 3 tI v0 none)), (1, .c (.sn 3 tI v1 none)), (12, xi v12), (13, xi v13)] [] []
noncomputable def f115l2 : Clean := ⟨[0, 1, 12, 13], [], [], [], []⟩
noncomputable def f115s3  : St := stOf [] [] []
noncomputable def f115l3 : Clean := ⟨[], [], [], [], []⟩
noncomputable def f115s4 (v4 : Bool) : St := stOf [(4, xB v4)] [] []
noncomputable def f115l4 : Clean := ⟨[4], [], [], [], []⟩
noncomputable def f115B : Nat → Option Clean := lookL [(0, f115l3), (1000000, f115l4)]
noncomputable abbrev f115i {ρ : Type} (N : Nat) (c : Code) (p : Plan) (σ : St) (K : KT ρ) : Option ρ := iCode f115G tab f115B N c p σ K
noncomputable def f115c (n : Nat) : Code := codeN 99 (bodyOf Try.f115) n
theorem f115t1 N v0 v1 (K : KT ρ) : f115i N (f115c 2) .n (f115s0 v0 v1) (joinK (some f115l1) K) =
  slices_Equal_int_int.Z1 N v0 v1 (fun v0 v1 => K .nrm (f115s1 v0 v1)) := by kernel_rfl
theorem f115t3 N v0 v1 (K : KT ρ) : f115i N (f115c 5) .n (f115s1 v0 v1) (joinK (some f115l1) K) =
  slices_Equal_int_int.Z3 N v0 v1 (fun v0 v1 => K .nrm (f115s1 v0 v1)) (fun v4 => K .ret (f115s4 v4)) := by kernel_rfl
theorem f115t6 N v0 v1 (K : KT ρ) : f115i N (f115c 19) .n (f115s1 v0 v1) (joinK (some f115l2) K) =
  slices_Equal_int_int.Z6 N v0 v1 (fun v0 v1 v12 v13 => K .nrm (f115s2 v0 v1 v12 v13)) := by kernel_rfl
theorem f115t9 N v0 v1 v12 v13 (K : KT ρ) : f115i N (f115c 75) .n (f115s2 v0 v1 v12 v13) (joinK (some f115l2) K) =
  slices_Equal_int_int.Z9 N v0 v1 v12 v13 (fun v0 v1 v12 v13 => K .nrm (f115s2 v0 v1 v12 v13)) (K (.exit 0) f115s3) (fun v4 => K .ret (f115s4 v4)) := by kernel_rfl
noncomputable def f115p8 : Plan := .mk none (some f115l2) .n .n
noncomputable abbrev f115w8 {ρ : Type} (N M : Nat) (σ : St) (K : KT ρ) : Option ρ := loopC (fun σ K => f115i N (f115c 75) .n σ K) f115l2 M σ K
theorem f115t8L {ρ : Type} (N : Nat) (K : KT ρ) : ∀ (M : Nat) (v0 v1 : LI) (v12 v13 : Int), f115w8 N M (f115s2 v0 v1 v12 v13) K =
  slices_Equal_int_int.Z8L N (K (.exit 0) f115s3) (fun v4 => K .ret (f115s4 v4)) M v0 v1 v12 v13
  | 0, _, _, _, _ => rfl
  | M + 1, v0, v1, v12, v13 => viaRoundS (fun k => slices_Equal_int_int.Z9 N v0 v1 v12 v13 k (K (.exit 0) f115s3) (fun v4 => K .ret (f115s4 v4))) (f115t9 N (K := seqK (fun σ => f115w8 N M σ K) K) ..) (fx4 fun v0 v1 v12 v13 => f115t8L N K M v0 v1 v12 v13) (by kernel_rfl)
theorem f115t8 N v0 v1 v12 v13 (K : KT ρ) : f115i N (f115c 43) f115p8 (f115s2 v0 v1 v12 v13) (joinK (some f115l3) K) =
  slices_Equal_int_int.Z8 N v0 v1 v12 v13 (K (.exit 0) f115s3) (fun v4 => K .ret (f115s4 v4)) :=
 viaLoopS (by kernel_rfl) (f115t8L N (joinK (some f115l3) K) N v0 v1 v12 v13) (by kernel_rfl)
noncomputable def f115p7 : Plan := .mk (some f115l3) none f115p8 .n
theorem f115t7 N v0 v1 v12 v13 (K : KT ρ) : f115i N (f115c 27) f115p7 (f115s2 v0 v1 v12 v13) (joinK (some f115l3) K) =
  slices_Equal_int_int.Z7 N v0 v1 v12 v13 (K .nrm f115s3) (fun v4 => K .ret (f115s4 v4)) :=
 viaBlockS (by kernel_rfl) (f115t8 N (K := blockK 0 (joinK (some f115l3) K)) ..) (by kernel_rfl)
noncomputable def f115p5 : Plan := .mk (some f115l2) none .n f115p7
theorem f115t5 N v0 v1 (K : KT ρ) : f115i N (f115c 11) f115p5 (f115s1 v0 v1) (joinK (some f115l3) K) =
  slices_Equal_int_int.Z5 N v0 v1 (K .nrm f115s3) (fun v4 => K .ret (f115s4 v4)) :=
 viaSeqS (fun k => slices_Equal_int_int.Z6 N v0 v1 k) (by kernel_rfl) (f115t6 N (K := seqK (fun σ => f115i N (f115c 27) f115p7 σ (joinK (some f115l3) K)) (joinK (some f115l3) K)) ..) (fx4 fun v0 v1 v12 v13 => f115t7 N v0 v1 v12 v13 K) (by kernel_rfl)
theorem f115t10 N  (K : KT ρ) : f115i N (f115c 15) .n f115s3 (joinK (some f115lE) K) =
  slices_Equal_int_int.Z10 N (fun v4 => K .ret (f115s4 v4)) := by kernel_rfl
noncomputable def f115p4 : Plan := .mk (some f115l3) none f115p5 .n
theorem f115t4 N v0 v1 (K : KT ρ) : f115i N (f115c 7) f115p4 (f115s1 v0 v1) (joinK (some f115lE) K) =
  slices_Equal_int_int.Z4 N v0 v1 (fun v4 => K .ret (f115s4 v4)) :=
 viaSeqS (fun k => slices_Equal_int_int.Z5 N v0 v1 k (fun v4 => K .ret (f115s4 v4))) (by kernel_rfl) (f115t5 N (K := seqK (fun σ => f115i N (f115c 15) .n σ (joinK (some f115lE) K)) (joinK (some f115lE) K)) ..) (f115t10 N K) (by kernel_rfl)
noncomputable def f115p2 : Plan := .mk (some f115l1) none .n f115p4
theorem f115t2 N v0 v1 (K : KT ρ) : f115i N (f115c 3) f115p2 (f115s1 v0 v1) (joinK (some f115lE) K) =
  slices_Equal_int_int.Z2 N v0 v1 (fun v4 => K .ret (f115s4 v4)) :=
 viaSeqS (fun k => slices_Equal_int_int.Z3 N v0 v1 k (fun v4 => K .ret (f115s4 v4))) (by kernel_rfl) (f115t3 N (K := seqK (fun σ => f115i N (f115c 7) f115p4 σ (joinK (some f115lE) K)) (joinK (some f115lE) K)) ..) (fx2 fun v0 v1 => f115t4 N v0 v1 K) (by kernel_rfl)
noncomputable def f115p0 : Plan := .mk (some f115l1) none .n f115p2
theorem f115t0 N v0 v1 (K : KT ρ) : f115i N (f115c 1) f115p0 (f115s0 v0 v1) (joinK (some f115lE) K) =
  slices_Equal_int_int.Z0 N v0 v1 (fun v4 => K .ret (f115s4 v4)) :=
 viaSeqS (fun k => slices_Equal_int_int.Z1 N v0 v1 k) (by kernel_rfl) (f115t1 N (K := seqK (fun σ => f115i N (f115c 3) f115p2 σ (joinK (some f115lE) K)) (joinK (some f115lE) K)) ..) (fx2 fun v0 v1 => f115t2 N v0 v1 K) (by kernel_rfl)
theorem f115m (N : Nat) (v0 v1 : LI) : f115i N (f115c 1) f115p0 (f115s0 v0 v1) (joinK (some f115lE) (finK tab f115sig Try.f115.results.toList)) = slices_Equal_int_int.Z0 N v0 v1 (fun v4 => some ((), (v4, ()))) :=
  (f115t0 N v0 v1 (finK tab f115sig Try.f115.results.toList)).trans (by kernel_rfl)
theorem f115ok (h : slices_Equal_int_int.Spec) : EntryOk Try.prog 115 e115 :=
  entry_of_code (sig := f115sig) (c := (f115c 1)) (pl := f115p0) (je := (some f115lE)) (B := f115B) Try.func115 (by kernel_rfl) (by kernel_rfl) (by kernel_rfl) tabOk f115GOk (by kernel_rfl) (by kernel_rfl) (by kernel_rfl) (by kernel_rfl) fun X hb hp => by
    obtain ⟨v0, v1, _⟩ := X
    obtain ⟨N, h⟩ := h v0 v1 hb.1 hb.2.1
    exact ⟨N, (f115m N v0 v1).trans (h N (Nat.le_refl N))⟩
theorem e115ok : EntryOk Try.prog 115 e115 := f115ok slices_Equal_int_int.ok
end Go.Fw
namespace Go.Fw
variable {ρ : Type}
open Go.Proofs
noncomputable def f89sig : Sig := ⟨[⟨.pair (.int .i64) (.pair (.int .i64) (.sl 3 (.int .i64))), true, false⟩, ⟨.pair (.int .i64) (.pair (.int .i64) (.sl 3 (.int .i64))), true, false⟩], [⟨.bool, false, false⟩]⟩
noncomputable def e89 : Entry := ⟨f89sig, none, fun X => ((), ((impl_sameMatrix.g X.1 X.2.1), ()))⟩
noncomputable def f89G : Gm := addG emptyG 115 e115
theorem f89GOk : GOk Try.prog f89G := (GOk.nil).add e115ok (by kernel_rfl)
noncomputable def f89lE : Clean := ⟨[], [], [], [], []⟩
noncomputable def f89s0 (v0 v1 : MT) : St := initSt f89sig.ps (v0, (v1, ()))
noncomputable def f89s1 (v4 : Bool) : St := stOf [(4, xB v4)] [] []
noncomputable def f89l1 : Clean := ⟨[4], [], [], [], []⟩
noncomputable def f89B : Nat → Option Clean := lookL [(1000000, f89l1)]
noncomputable abbrev f89i {ρ : Type} (N : Nat) (c : Code) (p : Plan) (σ : St) (K : KT ρ) : Option ρ := iCode f89G tab f89B N c p σ K
noncomputable def f89c (n : Nat) : Code := codeN 99 (bodyOf Try.f89) n
theorem f89t0 N v0 v1 (K : KT ρ) : f89i N (f89c 1) .n (f89s0 v0 v1) (joinK (some f89lE) K) =
  impl_sameMatrix.Z0 N v0 v1 (fun v4 => K .ret (f89s1 v4)) := by kernel_rfl
theorem f89m (N : Nat) (v0 v1 : MT) : f89i N (f89c 1) .n (f89s0 v0 v1) (joinK (some f89lE) (finK tab f89sig Try.f89.results.toList)) = impl_sameMatrix.Z0 N v0 v1 (fun v4 => some ((), (v4, ()))) :=
  (f89t0 N v0 v1 (finK tab f89sig Try.f89.results.toList)).trans (by kernel_rfl)
theorem f89ok (h : impl_sameMatrix.Spec) : EntryOk Try.prog 89 e89 :=
  entry_of_code (sig := f89sig) (c := (f89c 1)) (pl := .n) (je := (some f89lE)) (B := f89B) Try.func89 (by kernel_rfl) (by kernel_rfl) (by kernel_rfl) tabOk f89GOk (by kernel_rfl) (by kernel_rfl) (by kernel_rfl) (by kernel_rfl) fun X hb hp => by
    obtain ⟨v0, v1, _⟩ := X
    obtain ⟨N, h⟩ := h v0 v1 hb.1 hb.2.1
    exact ⟨N, (f89m N v0 v1).trans (h N (Nat.le_refl N))⟩
theorem e89ok : EntryOk Try.prog 89 e89 := f89ok impl_sameMatrix.ok
end Go.Fw
namespace Go.Fw
variable {ρ : Type}
open Go.Proofs
noncomputable def f46sig : Sig := ⟨[⟨.pair (.int .i64) (.pair (.int .i64) (.sl 3 (.int .i64))), true, false⟩, ⟨.pair (.int .i64) (.pair (.int .i64) (.sl 3 (.int .i64))), true, false⟩], [⟨.bool, false, false⟩]⟩
noncomputable def e46 : Entry := ⟨f46sig, none, fun X => ((), ((impl_AreAlike.g X.1 X.2.1), ()))⟩
noncomputable def f46G : Gm := addG (addG emptyG 43 e43) 89 e89
theorem f46GOk : GOk Try.prog f46G := ((GOk.nil).add e43ok (by kernel_rfl)).add e89ok (by kernel_rfl)
noncomputable def f46lE : Clean := ⟨[], [], [], [], []⟩
noncomputable def f46s0 (v0 v1 : MT) : St := initSt f46sig.ps (v0, (v1, ()))
noncomputable def f46s1 (v4 : Bool) : St := stOf [(4, xB v4)] [] []
noncomputable def f46l1 : Clean := ⟨[4], [], [], [], []⟩
noncomputable def f46B : Nat → Option Clean := lookL [(1000000, f46l1)]
noncomputable abbrev f46i {ρ : Type} (N : Nat) (c : Code) (p : Plan) (σ : St) (K : KT ρ) : Option ρ := iCode f46G tab f46B N c p σ K
noncomputable def f46c (n : Nat) : Code := codeN 99 (bodyOf Try.f46) n
theorem f46t0 N v0 v1 (K : KT ρ) : f46i N (f46c 1) .n (f46s0 v0 v1) (joinK (some f46lE) K) =
  impl_AreAlike.Z0 N v0 v1 (fun v4 => K .ret (f46s1 v4)) := by kernel_rfl
theorem f46m (N : Nat) (v0 v1 : MT) : f46i N (f46c 1) .n (f46s0 v0 v1) (joinK (some f46lE) (finK tab f46sig Try.f46.results.toList)) = impl_AreAlike.Z0 N v0 v1 (fun v4 => some ((), (v4, ()))) :=
  (f46t0 N v0 v1 (finK tab f46sig Try.f46.results.toList)).trans (by kernel_rfl)
theorem f46ok (h : impl_AreAlike.Spec) : EntryOk Try.prog 46 e46 :=
  entry_of_code (sig := f46sig) (c := (f46c 1)) (pl := .n) (je := (some f46lE)) (B := f46B) Try.func46 (by kernel_rfl) (by kernel_rfl) (by kernel_rfl) tabOk f46GOk (by kernel_rfl) (by kernel_rfl) (by kernel_rfl) (by kernel_rfl) fun X hb hp => by
    obtain ⟨v0, v1, _⟩ := X
    obtain ⟨N, h⟩ := h v0 v1 hb.1 hb.2.1
    exact ⟨N, (f46m N v0 v1).trans (h N (Nat.le_refl N))⟩
theorem e46ok : EntryOk Try.prog 46 e46 := f46ok impl_AreAlike.ok
end Go.Fw
namespace Go.Fw
variable {ρ : Type}
open Go.Proofs
noncomputable def f37sig : Sig := ⟨[⟨.sl 3 (.int .i64), false, false⟩, ⟨.sl 3 (.int .i64), false, false⟩], [⟨.bool, false, false⟩]⟩
noncomputable def e37 : Entry := ⟨f37sig, none, fun X => ((), ((laws_eqIntS.g X.1 X.2.1), ()))⟩
noncomputable def f37G : Gm := emptyG
theorem f37GOk : GOk Try.prog f37G := GOk.nil
noncomputable def f37lE : Clean := ⟨[], [], [], [], []⟩
noncomputable def f37s0 (v0 v1 : LI) : St := initSt f37sig.ps (v0, (v1, ()))
noncomputable def f37s1 (v0 v1 : LI) : St := stOf [(0, .c (.sn 3 tI v0 none)), (1, .c (.sn 3 tI v1 none))] [] []
noncomputable def f37l1 : Clean := ⟨[0, 1], [], [], [], []⟩
noncomputable def f37s2 (v0 v1 : LI) (v5 : Int) : St := stOf [(0, .c (.sn 3 tI v0 none)), (1, .c (.sn 3 tI v1 none)), (5, xi v5)] [] []
noncomputable def f37l2 : Clean := ⟨[0, 1, 5], [], [], [], []⟩
noncomputable def f37s3  : St := stOf [] [] []
noncomputable def f37l3 : Clean := ⟨[], [], [], [], []⟩
noncomputable def f37s4 (v4 : Bool) : St := stOf [(4, xB v4)] [] []
noncomputable def f37l4 : Clean := ⟨[4], [], [], [], []⟩
noncomputable def f37B : Nat → Option Clean := lookL [(0, f37l3), (1000000, f37l4)]
noncomputable abbrev f37i {ρ : Type} (N : Nat) (c : Code) (p : Plan) (σ : St) (K : KT ρ) : Option ρ := iCode f37G tab f37B N c p σ K
noncomputable def f37c (n : Nat) : Code := codeN 99 (bodyOf Try.f37) n
theorem f37t1 N v0 v1 (K : KT ρ) : f37i N (f37c 2) .n (f37s0 v0 v1) (joinK (some f37l1) K) =
  laws_eqIntS.Z1 N v0 v1 (fun v0 v1 => K .nrm (f37s1 v0 v1)) := by kernel_rfl
theorem f37t3 N v0 v1 (K : KT ρ) : f37i N (f37c 5) .n (f37s1 v0 v1) (joinK (some f37l1) K) =
  laws_eqIntS.Z3 N v0 v1 (fun v0 v1 => K .nrm (f37s1 v0 v1)) (fun v4 => K .ret (f37s4 v4)) := by kernel_rfl
theorem f37t6 N v0 v1 (K : KT ρ) : f37i N (f37c 19) .n (f37s1 v0 v1) (joinK (some f37l2) K) =
  laws_eqIntS.Z6 N v0 v1 (fun v0 v1 v5 => K .nrm (f37s2 v0 v1 v5)) := by kernel_rfl
theorem f37t9 N v0 v1 v5 (K : KT ρ) : f37i N (f37c 75) .n (f37s2 v0 v1 v5) (joinK (some f37l2) K) =
  laws_eqIntS.Z9 N v0 v1 v5 (fun v0 v1 v5 => K .nrm (f37s2 v0 v1 v5)) (K (.exit 0) f37s3) (fun v4 => K .ret (f37s4 v4)) := by kernel_rfl
noncomputable def f37p8 : Plan := .mk none (some f37l2) .n .n
noncomputable abbrev f37w8 {ρ : Type} (N M : Nat) (σ : St) (K : KT ρ) : Option ρ := loopC (fun σ K => f37i N (f37c 75) .n σ K) f37l2 M σ K
theorem f37t8L {ρ : Type} (N : Nat) (K : KT ρ) : ∀ (M : Nat) (v0 v1 : LI) (v5 : Int), f37w8 N M (f37s2 v0 v1 v5) K =
  laws_eqIntS.Z8L N (K (.exit 0) f37s3) (fun v4 => K .ret (f37s4 v4)) M v0 v1 v5
  | 0, _, _, _ => rfl
  | M + 1, v0, v1, v5 => viaRoundS (fun k => laws_eqIntS.Z9 N v0 v1 v5 k (K (.exit 0) f37s3) (fun v4 => K .ret (f37s4 v4))) (f37t9 N (K := seqK (fun σ => f37w8 N M σ K) K) ..) (fx3 fun v0 v1 v5 => f37t8L N K M v0 v1 v5) (by kernel_rfl)
theorem f37t8 N v0 v1 v5 (K : KT ρ) : f37i N (f37c 43) f37p8 (f37s2 v0 v1 v5) (joinK (some f37l3) K) =
  laws_eqIntS.Z8 N v0 v1 v5 (K (.exit 0) f37s3) (fun v4 => K .ret (f37s4 v4)) :=
 viaLoopS (by kernel_rfl) (f37t8L N (joinK (some f37l3) K) N v0 v1 v5) (by kernel_rfl)
noncomputable def f37p7 : Plan := .mk (some f37l3) none f37p8 .n
theorem f37t7 N v0 v1 v5 (K : KT ρ) : f37i N (f37c 27) f37p7 (f37s2 v0 v1 v5) (joinK (some f37l3) K) =
  laws_eqIntS.Z7 N v0 v1 v5 (K .nrm f37s3) (fun v4 => K .ret (f37s4 v4)) :=
 viaBlockS (by kernel_rfl) (f37t8 N (K := blockK 0 (joinK (some f37l3) K)) ..) (by kernel_rfl)
noncomputable def f37p5 : Plan := .mk (some f37l2) none .n f37p7
theorem f37t5 N v0 v1 (K : KT ρ) : f37i N (f37c 11) f37p5 (f37s1 v0 v1) (joinK (some f37l3) K) =
  laws_eqIntS.Z5 N v0 v1 (K .nrm f37s3) (fun v4 => K .ret (f37s4 v4)) :=
 viaSeqS (fun k => laws_eqIntS.Z6 N v0 v1 k) (by kernel_rfl) (f37t6 N (K := seqK (fun σ => f37i N (f37c 27) f37p7 σ (joinK (some f37l3) K)) (joinK (some f37l3) K)) ..) (fx3 fun v0 v1 v5 => f37t7 N v0 v1 v5 K) (by kernel_rfl)
theorem f37t10 N  (K : KT ρ) : f37i N (f37c 15) .n f37s3 (joinK (some f37lE) K) =
  laws_eqIntS.Z10 N (fun v4 => K .ret (f37s4 v4)) := by kernel_rfl
noncomputable def f37p4 : Plan := .mk (some f37l3) none f37p5 .n
theorem f37t4 N v0 v1 (K : KT ρ) : f37i N (f37c 7) f37p4 (f37s1 v0 v1) (joinK (some f37lE) K) =
  laws_eqIntS.Z4 N v0 v1 (fun v4 => K .ret (f37s4 v4)) :=
 viaSeqS (fun k => laws_eqIntS.Z5 N v0 v1 k (fun v4 => K .ret (f37s4 v4))) (by kernel_rfl) (f37t5 N (K := seqK (fun σ => f37i N (f37c 15) .n σ (joinK (some f37lE) K)) (joinK (some f37lE) K)) ..) (f37t10 N K) (by kernel_rfl)
noncomputable def f37p2 : Plan := .mk (some f37l1) none .n f37p4
theorem f37t2 N v0 v1 (K : KT ρ) : f37i N (f37c 3) f37p2 (f37s1 v0 v1) (joinK (some f37lE) K) =
  laws_eqIntS.Z2 N v0 v1 (fun v4 => K .ret (f37s4 v4)) :=
 viaSeqS (fun k => laws_eqIntS.Z3 N v0 v1 k (fun v4 => K .ret (f37s4 v4))) (by kernel_rfl) (f37t3 N (K := seqK (fun σ => f37i N (f37c 7) f37p4 σ (joinK (some f37lE) K)) (joinK (some f37lE) K)) ..) (fx2 fun v0 v1 => f37t4 N v0 v1 K) (by kernel_rfl)
noncomputable def f37p0 : Plan := .mk (some f37l1) none .n f37p2
theorem f37t0 N v0 v1 (K : KT ρ) : f37i N (f37c 1) f37p0 (f37s0 v0 v1) (joinK (some f37lE) K) =
  laws_eqIntS.Z0 N v0 v1 (fun v4 => K .ret (f37s4 v4)) :=
 viaSeqS (fun k => laws_eqIntS.Z1 N v0 v1 k) (by kernel_rfl) (f37t1 N (K := seqK (fun σ => f37i N (f37c 3) f37p2 σ (joinK (some f37lE) K)) (joinK (some f37lE) K)) ..) (fx2 fun v0 v1 => f37t2 N v0 v1 K) (by kernel_rfl)
theorem f37m (N : Nat) (v0 v1 : LI) : f37i N (f37c 1) f37p0 (f37s0 v0 v1) (joinK (some f37lE) (finK tab f37sig Try.f37.results.toList)) = laws_eqIntS.Z0 N v0 v1 (fun v4 => some ((), (v4, ()))) :=
  (f37t0 N v0 v1 (finK tab f37sig Try.f37.results.toList)).trans (by kernel_rfl)
theorem f37ok (h : laws_eqIntS.Spec) : EntryOk Try.prog 37 e37 :=
  entry_of_code (sig := f37sig) (c := (f37c 1)) (pl := f37p0) (je := (some f37lE)) (B := f37B) Try.func37 (by kernel_rfl) (by kernel_rfl) (by kernel_rfl) tabOk f37GOk (by kernel_rfl) (by kernel_rfl) (by kernel_rfl) (by kernel_rfl) fun X hb hp => by
    obtain ⟨v0, v1, _⟩ := X
    obtain ⟨N, h⟩ := h v0 v1 hb.1 hb.2.1
    exact ⟨N, (f37m N v0 v1).trans (h N (Nat.le_refl N))⟩
theorem e37ok : EntryOk Try.prog 37 e37 := f37ok laws_eqIntS.ok
end Go.Fw
namespace Go.Fw
variable {ρ : Type}
open Go.Proofs
noncomputable def f21sig : Sig := ⟨[⟨.pair (.int .i64) (.pair (.int .i64) (.sl 3 (.int .i64))), true, false⟩, ⟨.pair (.int .i64) (.pair (.int .i64) (.sl 3 (.int .i64))), true, false⟩], [⟨.bool, false, false⟩]⟩
noncomputable def e21 : Entry := ⟨f21sig, none, fun X => ((), ((laws_eqMatrix.g X.1 X.2.1), ()))⟩
noncomputable def f21G : Gm := addG emptyG 37 e37
theorem f21GOk : GOk Try.prog f21G := (GOk.nil).add e37ok (by kernel_rfl)
noncomputable def f21lE : Clean := ⟨[], [], [], [], []⟩
noncomputable def f21s0 (v0 v1 : MT) : St := initSt f21sig.ps (v0, (v1, ()))
noncomputable def f21s1 (v4 : Bool) : St := stOf [(4, xB v4)] [] []
noncomputable def f21l1 : Clean := ⟨[4], [], [], [], []⟩
noncomputable def f21B : Nat → Option Clean := lookL [(1000000, f21l1)]
noncomputable abbrev f21i {ρ : Type} (N : Nat) (c : Code) (p : Plan) (σ : St) (K : KT ρ) : Option ρ := iCode f21G tab f21B N c p σ K
noncomputable def f21c (n : Nat) : Code := codeN 99 (bodyOf Try.f21) n
theorem f21t0 N v0 v1 (K : KT ρ) : f21i N (f21c 1) .n (f21s0 v0 v1) (joinK (some f21lE) K) =
  laws_eqMatrix.Z0 N v0 v1 (fun v4 => K .ret (f21s1 v4)) := by kernel_rfl
theorem f21m (N : Nat) (v0 v1 : MT) : f21i N (f21c 1) .n (f21s0 v0 v1) (joinK (some f21lE) (finK tab f21sig Try.f21.results.toList)) = laws_eqMatrix.Z0 N v0 v1 (fun v4 => some ((), (v4, ()))) :=
  (f21t0 N v0 v1 (finK tab f21sig Try.f21.results.toList)).trans (by kernel_rfl)
theorem f21ok (h : laws_eqMatrix.Spec) : EntryOk Try.prog 21 e21 :=
  entry_of_code (sig := f21sig) (c := (f21c 1)) (pl := .n) (je := (some f21lE)) (B := f21B) Try.func21 (by kernel_rfl) (by kernel_rfl) (by kernel_rfl) tabOk f21GOk (by kernel_rfl) (by kernel_rfl) (by kernel_rfl) (by kernel_rfl) fun X hb hp => by
    obtain ⟨v0, v1, _⟩ := X
    obtain ⟨N, h⟩ := h v0 v1 hb.1 hb.2.1
    exact ⟨N, (f21m N v0 v1).trans (h N (Nat.le_refl N))⟩
theorem e21ok : EntryOk Try.prog 21 e21 := f21ok laws_eqMatrix.ok
end Go.Fw
namespace Go.Fw
variable {ρ : Type}
open Go.Proofs
noncomputable def f9sig : Sig := ⟨[⟨.pair (.int .i64) (.pair (.int .i64) (.sl 3 (.int .i64))), true, false⟩, ⟨.pair (.int .i64) (.pair (.int .i64) (.sl 3 (.int .i64))), true, false⟩], [⟨.bool, false, false⟩]⟩
noncomputable def e9 : Entry := ⟨f9sig, none, fun X => ((), ((laws_FnExactAreAlike.g X.1 X.2.1), ()))⟩
noncomputable def f9G : Gm := addG (addG (addG (addG (addG emptyG 16 e16) 18 e18) 21 e21) 45 e45) 46 e46
theorem f9GOk : GOk Try.prog f9G := (((((GOk.nil).add e16ok (by kernel_rfl)).add e18ok (by kernel_rfl)).add e21ok (by kernel_rfl)).add e45ok (by kernel_rfl)).add e46ok (by kernel_rfl)
noncomputable def f9lE : Clean := ⟨[], [], [], [], []⟩
noncomputable def f9s0 (v0 v1 : MT) : St := initSt f9sig.ps (v0, (v1, ()))
noncomputable def f9s1 (v4 : Bool) : St := stOf [(4, xB v4)] [] []
noncomputable def f9l1 : Clean := ⟨[4], [], [], [], []⟩
noncomputable def f9B : Nat → Option Clean := lookL [(1000000, f9l1)]
noncomputable abbrev f9i {ρ : Type} (N : Nat) (c : Code) (p : Plan) (σ : St) (K : KT ρ) : Option ρ := iCode f9G tab f9B N c p σ K
noncomputable def f9c (n : Nat) : Code := codeN 99 (bodyOf Try.f9) n
theorem f9t0 N v0 v1 (K : KT ρ) : f9i N (f9c 1) .n (f9s0 v0 v1) (joinK (some f9lE) K) =
  laws_FnExactAreAlike.Z0 N v0 v1 (fun v4 => K .ret (f9s1 v4)) := by kernel_rfl
theorem f9m (N : Nat) (v0 v1 : MT) : f9i N (f9c 1) .n (f9s0 v0 v1) (joinK (some f9lE) (finK tab f9sig Try.f9.results.toList)) = laws_FnExactAreAlike.Z0 N v0 v1 (fun v4 => some ((), (v4, ()))) :=
  (f9t0 N v0 v1 (finK tab f9sig Try.f9.results.toList)).trans (by kernel_rfl)
theorem f9ok (h : laws_FnExactAreAlike.Spec) : EntryOk Try.prog 9 e9 :=
  entry_of_code (sig := f9sig) (c := (f9c 1)) (pl := .n) (je := (some f9lE)) (B := f9B) Try.func9 (by kernel_rfl) (by kernel_rfl) (by kernel_rfl) tabOk f9GOk (by kernel_rfl) (by kernel_rfl) (by kernel_rfl) (by kernel_rfl) fun X hb hp => by
    obtain ⟨v0, v1, _⟩ := X
    obtain ⟨N, h⟩ := h v0 v1 hb.1 hb.2.1
    exact ⟨N, (f9m N v0 v1).trans (h N (Nat.le_refl N))⟩
theorem e9ok : EntryOk Try.prog 9 e9 := f9ok laws_FnExactAreAlike.ok
end Go.Fw
