/- The ties: the program's text comes to the plain functions. Nothing is assumed. -/
import Derived.Test.YtillpdbmnjkjiaaPuFnExactGreenSequencesb
import Derived.Test.YtillpdbmnjkjiaaTiFnExactGreenSequencesa
import Derived.Test.YtillpdbmnjkjiaaPuFnExactGreenSequencesa
set_option linter.unusedVariables false
set_option linter.unusedSimpArgs false
set_option maxRecDepth 100000
namespace Go.Fw
variable {ρ : Type}
open Go.Proofs
noncomputable def f62sig : Sig := ⟨[⟨.pair (.int .i64) (.pair (.int .i64) (.sl 3 (.int .i64))), true, false⟩], [⟨.pair (.int .i64) (.pair (.int .i64) (.sl 3 (.int .i64))), true, false⟩, ⟨.bool, false, false⟩]⟩
noncomputable def e62 : Entry := ⟨f62sig, none, fun X => ((), ((impl_PrincipalMatrix.g X.1).1, ((impl_PrincipalMatrix.g X.1).2, ())))⟩
noncomputable def f62G : Gm := addG (addG emptyG 31 e31) 91 e91
theorem f62GOk : GOk Try.prog f62G := ((GOk.nil).add e31ok (by kernel_rfl)).add e91ok (by kernel_rfl)
noncomputable def f62lE : Clean := ⟨[], [], [], [], []⟩
noncomputable def f62s0 (v0 : MT) : St := initSt f62sig.ps (v0, ())
noncomputable def f62s1 (v1_0 v1_1 : Int) (v1_2 : LI) (v2_0 v2_1 : Int) : St := stOf [(1, xb 1), (2, xb 2)] [(1, (30, [yi v1_0, yi v1_1, .sn 3 tI v1_2 none])), (2, (30, [yi v2_0, yi v2_1, .nil]))] []
noncomputable def f62l1 : Clean := ⟨[1, 2], [1, 2], [], [], []⟩
noncomputable def f62s2 (v4_2 : LI) (v1_0 v1_1 : Int) (v1_2 : LI) (v2_0 v2_1 v4_0 v4_1 : Int) : St := stOf [(1, xb 1), (2, xb 2), (4, xb 4)] [(1, (30, [yi v1_0, yi v1_1, .sn 3 tI v1_2 none])), (2, (30, [yi v2_0, yi v2_1, .nil])), (4, (30, [yi v4_0, yi v4_1, .own 20000258]))] [(20000258, (⟨3, .int .i64, v4_2, true, false⟩ : Row))]
noncomputable def f62l2 : Clean := ⟨[1, 2, 4], [1, 2, 4], [], [], [(⟨true, 4, 2⟩, 20000258)]⟩
noncomputable def f62s3 (v4_2 : LI) (v5 v1_0 v1_1 : Int) (v1_2 : LI) (v2_0 v2_1 v4_0 v4_1 : Int) : St := stOf [(1, xb 1), (2, xb 2), (4, xb 4), (5, xi v5)] [(1, (30, [yi v1_0, yi v1_1, .sn 3 tI v1_2 none])), (2, (30, [yi v2_0, yi v2_1, .nil])), (4, (30, [yi v4_0, yi v4_1, .own 20000258]))] [(20000258, (⟨3, .int .i64, v4_2, true, false⟩ : Row))]
noncomputable def f62l3 : Clean := ⟨[1, 2, 4, 5], [1, 2, 4], [], [], [(⟨true, 4, 2⟩, 20000258)]⟩
noncomputable def f62s4 (v4_2 : LI) (v5 v6 v1_0 v1_1 : Int) (v1_2 : LI) (v2_0 v2_1 v4_0 v4_1 : Int) : St := stOf [(1, xb 1), (2, xb 2), (4, xb 4), (5, xi v5), (6, xi v6)] [(1, (30, [yi v1_0, yi v1_1, .sn 3 tI v1_2 none])), (2, (30, [yi v2_0, yi v2_1, .nil])), (4, (30, [yi v4_0, yi v4_1, .own 20000258]))] [(20000258, (⟨3, .int .i64, v4_2, true, false⟩ : Row))]
noncomputable def f62l4 : Clean := ⟨[1, 2, 4, 5, 6], [1, 2, 4], [], [], [(⟨true, 4, 2⟩, 20000258)]⟩
noncomputable def f62s5 (v4_2 : LI) (v2_0 v2_1 v4_0 v4_1 : Int) : St := stOf [(2, xb 2), (4, xb 4)] [(2, (30, [yi v2_0, yi v2_1, .nil])), (4, (30, [yi v4_0, yi v4_1, .own 20000258]))] [(20000258, (⟨3, .int .i64, v4_2, true, false⟩ : Row))]
noncomputable def f62l5 : Clean := ⟨[2, 4], [2, 4], [], [], [(⟨true, 4, 2⟩, 20000258)]⟩
noncomputable def f62s6 (v2_2 : LI) (v3 : Bool) (v2_0 v2_1 : Int) : St := stOf [(2, xb 2), (3, xB v3)] [(2, (30, [yi v2_0, yi v2_1, .own 20000130]))] [(20000130, (⟨3, .int .i64, v2_2, true, false⟩ : Row))]
noncomputable def f62l6 : Clean := ⟨[2, 3], [2], [⟨⟨true, 2, 2⟩, 30000000, 3, .int .i64, true⟩], [], [(⟨true, 2, 2⟩, 20000130)]⟩
noncomputable def f62B : Nat → Option Clean := lookL [(2, f62l3), (1, f62l3), (0, f62l5), (1000000, f62l6)]
noncomputable abbrev f62i {ρ : Type} (N : Nat) (c : Code) (p : Plan) (σ : St) (K : KT ρ) : Option ρ := iCode f62G tab f62B N c p σ K
noncomputable def f62c (n : Nat) : Code := codeN 99 (bodyOf Try.f62) n
theorem f62t1 N v0 (K : KT ρ) : f62i N (f62c 2) .n (f62s0 v0) (joinK (some f62l1) K) =
  impl_PrincipalMatrix.Z1 N v0 (fun v1_0 v1_1 v1_2 v2_0 v2_1 => K .nrm (f62s1 v1_0 v1_1 v1_2 v2_0 v2_1)) := by kernel_rfl
theorem f62t3 N v1_0 v1_1 v1_2 v2_0 v2_1 (K : KT ρ) : f62i N (f62c 5) .n (f62s1 v1_0 v1_1 v1_2 v2_0 v2_1) (joinK (some f62l1) K) =
  impl_PrincipalMatrix.Z3 N v1_0 v1_1 v1_2 v2_0 v2_1 (fun v1_0 v1_1 v1_2 v2_0 v2_1 => K .nrm (f62s1 v1_0 v1_1 v1_2 v2_0 v2_1)) (fun v2_2 v3 v2_0 v2_1 => K .ret (f62s6 v2_2 v3 v2_0 v2_1)) := by kernel_rfl
theorem f62t5 N v1_0 v1_1 v1_2 v2_0 v2_1 (K : KT ρ) : f62i N (f62c 11) .n (f62s1 v1_0 v1_1 v1_2 v2_0 v2_1) (joinK (some f62l2) K) =
  impl_PrincipalMatrix.Z5 N v1_0 v1_1 v1_2 v2_0 v2_1 (fun v4_2 v1_0 v1_1 v1_2 v2_0 v2_1 v4_0 v4_1 => K .nrm (f62s2 v4_2 v1_0 v1_1 v1_2 v2_0 v2_1 v4_0 v4_1)) := by kernel_rfl
theorem f62t8 N v4_2 v1_0 v1_1 v1_2 v2_0 v2_1 v4_0 v4_1 (K : KT ρ) : f62i N (f62c 39) .n (f62s2 v4_2 v1_0 v1_1 v1_2 v2_0 v2_1 v4_0 v4_1) (joinK (some f62l3) K) =
  impl_PrincipalMatrix.Z8 N v4_2 v1_0 v1_1 v1_2 v2_0 v2_1 v4_0 v4_1 (fun v4_2 v5 v1_0 v1_1 v1_2 v2_0 v2_1 v4_0 v4_1 => K .nrm (f62s3 v4_2 v5 v1_0 v1_1 v1_2 v2_0 v2_1 v4_0 v4_1)) := by kernel_rfl
theorem f62t12 N v4_2 v5 v1_0 v1_1 v1_2 v2_0 v2_1 v4_0 v4_1 (K : KT ρ) : f62i N (f62c 279) .n (f62s3 v4_2 v5 v1_0 v1_1 v1_2 v2_0 v2_1 v4_0 v4_1) (joinK (some f62l3) K) =
  impl_PrincipalMatrix.Z12 N v4_2 v5 v1_0 v1_1 v1_2 v2_0 v2_1 v4_0 v4_1 (fun v4_2 v5 v1_0 v1_1 v1_2 v2_0 v2_1 v4_0 v4_1 => K .nrm (f62s3 v4_2 v5 v1_0 v1_1 v1_2 v2_0 v2_1 v4_0 v4_1)) (fun v4_2 v2_0 v2_1 v4_0 v4_1 => K (.exit 0) (f62s5 v4_2 v2_0 v2_1 v4_0 v4_1)) := by kernel_rfl
theorem f62t16 N v4_2 v5 v1_0 v1_1 v1_2 v2_0 v2_1 v4_0 v4_1 (K : KT ρ) : f62i N (f62c 2199) .n (f62s3 v4_2 v5 v1_0 v1_1 v1_2 v2_0 v2_1 v4_0 v4_1) (joinK (some f62l4) K) =
  impl_PrincipalMatrix.Z16 N v4_2 v5 v1_0 v1_1 v1_2 v2_0 v2_1 v4_0 v4_1 (fun v4_2 v5 v6 v1_0 v1_1 v1_2 v2_0 v2_1 v4_0 v4_1 => K .nrm (f62s4 v4_2 v5 v6 v1_0 v1_1 v1_2 v2_0 v2_1 v4_0 v4_1)) := by kernel_rfl
theorem f62t19 N v4_2 v5 v6 v1_0 v1_1 v1_2 v2_0 v2_1 v4_0 v4_1 (K : KT ρ) : f62i N (f62c 9367) .n (f62s4 v4_2 v5 v6 v1_0 v1_1 v1_2 v2_0 v2_1 v4_0 v4_1) (joinK (some f62l4) K) =
  impl_PrincipalMatrix.Z19 N v4_2 v5 v6 v1_0 v1_1 v1_2 v2_0 v2_1 v4_0 v4_1 (fun v4_2 v5 v6 v1_0 v1_1 v1_2 v2_0 v2_1 v4_0 v4_1 => K .nrm (f62s4 v4_2 v5 v6 v1_0 v1_1 v1_2 v2_0 v2_1 v4_0 v4_1)) (fun v4_2 v5 v1_0 v1_1 v1_2 v2_0 v2_1 v4_0 v4_1 => K (.exit 2) (f62s3 v4_2 v5 v1_0 v1_1 v1_2 v2_0 v2_1 v4_0 v4_1)) := by kernel_rfl
noncomputable def f62p18 : Plan := .mk none (some f62l4) .n .n
noncomputable abbrev f62w18 {ρ : Type} (N M : Nat) (σ : St) (K : KT ρ) : Option ρ := loopC (fun σ K => f62i N (f62c 9367) .n σ K) f62l4 M σ K
theorem f62t18L {ρ : Type} (N : Nat) (K : KT ρ) : ∀ (M : Nat) (v4_2 : LI) (v5 v6 v1_0 v1_1 : Int) (v1_2 : LI) (v2_0 v2_1 v4_0 v4_1 : Int), f62w18 N M (f62s4 v4_2 v5 v6 v1_0 v1_1 v1_2 v2_0 v2_1 v4_0 v4_1) K =
  impl_PrincipalMatrix.Z18L N (fun v4_2 v5 v1_0 v1_1 v1_2 v2_0 v2_1 v4_0 v4_1 => K (.exit 2) (f62s3 v4_2 v5 v1_0 v1_1 v1_2 v2_0 v2_1 v4_0 v4_1)) M v4_2 v5 v6 v1_0 v1_1 v1_2 v2_0 v2_1 v4_0 v4_1
  | 0, _, _, _, _, _, _, _, _, _, _ => rfl
  | M + 1, v4_2, v5, v6, v1_0, v1_1, v1_2, v2_0, v2_1, v4_0, v4_1 => viaRoundS (fun k => impl_PrincipalMatrix.Z19 N v4_2 v5 v6 v1_0 v1_1 v1_2 v2_0 v2_1 v4_0 v4_1 k (fun v4_2 v5 v1_0 v1_1 v1_2 v2_0 v2_1 v4_0 v4_1 => K (.exit 2) (f62s3 v4_2 v5 v1_0 v1_1 v1_2 v2_0 v2_1 v4_0 v4_1))) (f62t19 N (K := seqK (fun σ => f62w18 N M σ K) K) ..) (fx10 fun v4_2 v5 v6 v1_0 v1_1 v1_2 v2_0 v2_1 v4_0 v4_1 => f62t18L N K M v4_2 v5 v6 v1_0 v1_1 v1_2 v2_0 v2_1 v4_0 v4_1) (by kernel_rfl)
theorem f62t18 N v4_2 v5 v6 v1_0 v1_1 v1_2 v2_0 v2_1 v4_0 v4_1 (K : KT ρ) : f62i N (f62c 5271) f62p18 (f62s4 v4_2 v5 v6 v1_0 v1_1 v1_2 v2_0 v2_1 v4_0 v4_1) (joinK (some f62l3) K) =
  impl_PrincipalMatrix.Z18 N v4_2 v5 v6 v1_0 v1_1 v1_2 v2_0 v2_1 v4_0 v4_1 (fun v4_2 v5 v1_0 v1_1 v1_2 v2_0 v2_1 v4_0 v4_1 => K (.exit 2) (f62s3 v4_2 v5 v1_0 v1_1 v1_2 v2_0 v2_1 v4_0 v4_1)) :=
 viaLoopS (by kernel_rfl) (f62t18L N (joinK (some f62l3) K) N v4_2 v5 v6 v1_0 v1_1 v1_2 v2_0 v2_1 v4_0 v4_1) (by kernel_rfl)
noncomputable def f62p17 : Plan := .mk (some f62l3) none f62p18 .n
theorem f62t17 N v4_2 v5 v6 v1_0 v1_1 v1_2 v2_0 v2_1 v4_0 v4_1 (K : KT ρ) : f62i N (f62c 3223) f62p17 (f62s4 v4_2 v5 v6 v1_0 v1_1 v1_2 v2_0 v2_1 v4_0 v4_1) (joinK (some f62l3) K) =
  impl_PrincipalMatrix.Z17 N v4_2 v5 v6 v1_0 v1_1 v1_2 v2_0 v2_1 v4_0 v4_1 (fun v4_2 v5 v1_0 v1_1 v1_2 v2_0 v2_1 v4_0 v4_1 => K .nrm (f62s3 v4_2 v5 v1_0 v1_1 v1_2 v2_0 v2_1 v4_0 v4_1)) :=
 viaBlockS (by kernel_rfl) (f62t18 N (K := blockK 2 (joinK (some f62l3) K)) ..) (by kernel_rfl)
noncomputable def f62p15 : Plan := .mk (some f62l4) none .n f62p17
theorem f62t15 N v4_2 v5 v1_0 v1_1 v1_2 v2_0 v2_1 v4_0 v4_1 (K : KT ρ) : f62i N (f62c 1175) f62p15 (f62s3 v4_2 v5 v1_0 v1_1 v1_2 v2_0 v2_1 v4_0 v4_1) (joinK (some f62l3) K) =
  impl_PrincipalMatrix.Z15 N v4_2 v5 v1_0 v1_1 v1_2 v2_0 v2_1 v4_0 v4_1 (fun v4_2 v5 v1_0 v1_1 v1_2 v2_0 v2_1 v4_0 v4_1 => K .nrm (f62s3 v4_2 v5 v1_0 v1_1 v1_2 v2_0 v2_1 v4_0 v4_1)) :=
 viaSeqS (fun k => impl_PrincipalMatrix.Z16 N v4_2 v5 v1_0 v1_1 v1_2 v2_0 v2_1 v4_0 v4_1 k) (by kernel_rfl) (f62t16 N (K := seqK (fun σ => f62i N (f62c 3223) f62p17 σ (joinK (some f62l3) K)) (joinK (some f62l3) K)) ..) (fx10 fun v4_2 v5 v6 v1_0 v1_1 v1_2 v2_0 v2_1 v4_0 v4_1 => f62t17 N v4_2 v5 v6 v1_0 v1_1 v1_2 v2_0 v2_1 v4_0 v4_1 K) (by kernel_rfl)
noncomputable def f62p14 : Plan := .mk (some f62l3) none f62p15 .n
theorem f62t14 N v4_2 v5 v1_0 v1_1 v1_2 v2_0 v2_1 v4_0 v4_1 (K : KT ρ) : f62i N (f62c 663) f62p14 (f62s3 v4_2 v5 v1_0 v1_1 v1_2 v2_0 v2_1 v4_0 v4_1) (joinK (some f62l3) K) =
  impl_PrincipalMatrix.Z14 N v4_2 v5 v1_0 v1_1 v1_2 v2_0 v2_1 v4_0 v4_1 (fun v4_2 v5 v1_0 v1_1 v1_2 v2_0 v2_1 v4_0 v4_1 => K .nrm (f62s3 v4_2 v5 v1_0 v1_1 v1_2 v2_0 v2_1 v4_0 v4_1)) :=
 viaBlockS (by kernel_rfl) (f62t15 N (K := blockK 1 (joinK (some f62l3) K)) ..) (by kernel_rfl)
theorem f62t20 N v4_2 v5 v1_0 v1_1 v1_2 v2_0 v2_1 v4_0 v4_1 (K : KT ρ) : f62i N (f62c 919) .n (f62s3 v4_2 v5 v1_0 v1_1 v1_2 v2_0 v2_1 v4_0 v4_1) (joinK (some f62l3) K) =
  impl_PrincipalMatrix.Z20 N v4_2 v5 v1_0 v1_1 v1_2 v2_0 v2_1 v4_0 v4_1 (fun v4_2 v5 v1_0 v1_1 v1_2 v2_0 v2_1 v4_0 v4_1 => K .nrm (f62s3 v4_2 v5 v1_0 v1_1 v1_2 v2_0 v2_1 v4_0 v4_1)) := by kernel_rfl
noncomputable def f62p13 : Plan := .mk (some f62l3) none f62p14 .n
theorem f62t13 N v4_2 v5 v1_0 v1_1 v1_2 v2_0 v2_1 v4_0 v4_1 (K : KT ρ) : f62i N (f62c 407) f62p13 (f62s3 v4_2 v5 v1_0 v1_1 v1_2 v2_0 v2_1 v4_0 v4_1) (joinK (some f62l3) K) =
  impl_PrincipalMatrix.Z13 N v4_2 v5 v1_0 v1_1 v1_2 v2_0 v2_1 v4_0 v4_1 (fun v4_2 v5 v1_0 v1_1 v1_2 v2_0 v2_1 v4_0 v4_1 => K .nrm (f62s3 v4_2 v5 v1_0 v1_1 v1_2 v2_0 v2_1 v4_0 v4_1)) :=
 viaSeqS (fun k => impl_PrincipalMatrix.Z14 N v4_2 v5 v1_0 v1_1 v1_2 v2_0 v2_1 v4_0 v4_1 k) (by kernel_rfl) (f62t14 N (K := seqK (fun σ => f62i N (f62c 919) .n σ (joinK (some f62l3) K)) (joinK (some f62l3) K)) ..) (fx9 fun v4_2 v5 v1_0 v1_1 v1_2 v2_0 v2_1 v4_0 v4_1 => f62t20 N v4_2 v5 v1_0 v1_1 v1_2 v2_0 v2_1 v4_0 v4_1 K) (by kernel_rfl)
noncomputable def f62p11 : Plan := .mk (some f62l3) none .n f62p13
theorem f62t11 N v4_2 v5 v1_0 v1_1 v1_2 v2_0 v2_1 v4_0 v4_1 (K : KT ρ) : f62i N (f62c 151) f62p11 (f62s3 v4_2 v5 v1_0 v1_1 v1_2 v2_0 v2_1 v4_0 v4_1) (joinK (some f62l3) K) =
  impl_PrincipalMatrix.Z11 N v4_2 v5 v1_0 v1_1 v1_2 v2_0 v2_1 v4_0 v4_1 (fun v4_2 v5 v1_0 v1_1 v1_2 v2_0 v2_1 v4_0 v4_1 => K .nrm (f62s3 v4_2 v5 v1_0 v1_1 v1_2 v2_0 v2_1 v4_0 v4_1)) (fun v4_2 v2_0 v2_1 v4_0 v4_1 => K (.exit 0) (f62s5 v4_2 v2_0 v2_1 v4_0 v4_1)) :=
 viaSeqS (fun k => impl_PrincipalMatrix.Z12 N v4_2 v5 v1_0 v1_1 v1_2 v2_0 v2_1 v4_0 v4_1 k (fun v4_2 v2_0 v2_1 v4_0 v4_1 => K (.exit 0) (f62s5 v4_2 v2_0 v2_1 v4_0 v4_1))) (by kernel_rfl) (f62t12 N (K := seqK (fun σ => f62i N (f62c 407) f62p13 σ (joinK (some f62l3) K)) (joinK (some f62l3) K)) ..) (fx9 fun v4_2 v5 v1_0 v1_1 v1_2 v2_0 v2_1 v4_0 v4_1 => f62t13 N v4_2 v5 v1_0 v1_1 v1_2 v2_0 v2_1 v4_0 v4_1 K) (by kernel_rfl)
noncomputable def f62p10 : Plan := .mk none (some f62l3) f62p11 .n
noncomputable abbrev f62w10 {ρ : Type} (N M : Nat) (σ : St) (K : KT ρ) : Option ρ := loopC (fun σ K => f62i N (f62c 151) f62p11 σ K) f62l3 M σ K
theorem f62t10L {ρ : Type} (N : Nat) (K : KT ρ) : ∀ (M : Nat) (v4_2 : LI) (v5 v1_0 v1_1 : Int) (v1_2 : LI) (v2_0 v2_1 v4_0 v4_1 : Int), f62w10 N M (f62s3 v4_2 v5 v1_0 v1_1 v1_2 v2_0 v2_1 v4_0 v4_1) K =
  impl_PrincipalMatrix.Z10L N (fun v4_2 v2_0 v2_1 v4_0 v4_1 => K (.exit 0) (f62s5 v4_2 v2_0 v2_1 v4_0 v4_1)) M v4_2 v5 v1_0 v1_1 v1_2 v2_0 v2_1 v4_0 v4_1
  | 0, _, _, _, _, _, _, _, _, _ => rfl
  | M + 1, v4_2, v5, v1_0, v1_1, v1_2, v2_0, v2_1, v4_0, v4_1 => viaRoundS (fun k => impl_PrincipalMatrix.Z11 N v4_2 v5 v1_0 v1_1 v1_2 v2_0 v2_1 v4_0 v4_1 k (fun v4_2 v2_0 v2_1 v4_0 v4_1 => K (.exit 0) (f62s5 v4_2 v2_0 v2_1 v4_0 v4_1))) (f62t11 N (K := seqK (fun σ => f62w10 N M σ K) K) ..) (fx9 fun v4_2 v5 v1_0 v1_1 v1_2 v2_0 v2_1 v4_0 v4_1 => f62t10L N K M v4_2 v5 v1_0 v1_1 v1_2 v2_0 v2_1 v4_0 v4_1) (by kernel_rfl)
theorem f62t10 N v4_2 v5 v1_0 v1_1 v1_2 v2_0 v2_1 v4_0 v4_1 (K : KT ρ) : f62i N (f62c 87) f62p10 (f62s3 v4_2 v5 v1_0 v1_1 v1_2 v2_0 v2_1 v4_0 v4_1) (joinK (some f62l5) K) =
  impl_PrincipalMatrix.Z10 N v4_2 v5 v1_0 v1_1 v1_2 v2_0 v2_1 v4_0 v4_1 (fun v4_2 v2_0 v2_1 v4_0 v4_1 => K (.exit 0) (f62s5 v4_2 v2_0 v2_1 v4_0 v4_1)) :=
 viaLoopS (by kernel_rfl) (f62t10L N (joinK (some f62l5) K) N v4_2 v5 v1_0 v1_1 v1_2 v2_0 v2_1 v4_0 v4_1) (by kernel_rfl)
noncomputable def f62p9 : Plan := .mk (some f62l5) none f62p10 .n
theorem f62t9 N v4_2 v5 v1_0 v1_1 v1_2 v2_0 v2_1 v4_0 v4_1 (K : KT ρ) : f62i N (f62c 55) f62p9 (f62s3 v4_2 v5 v1_0 v1_1 v1_2 v2_0 v2_1 v4_0 v4_1) (joinK (some f62l5) K) =
  impl_PrincipalMatrix.Z9 N v4_2 v5 v1_0 v1_1 v1_2 v2_0 v2_1 v4_0 v4_1 (fun v4_2 v2_0 v2_1 v4_0 v4_1 => K .nrm (f62s5 v4_2 v2_0 v2_1 v4_0 v4_1)) :=
 viaBlockS (by kernel_rfl) (f62t10 N (K := blockK 0 (joinK (some f62l5) K)) ..) (by kernel_rfl)
noncomputable def f62p7 : Plan := .mk (some f62l3) none .n f62p9
theorem f62t7 N v4_2 v1_0 v1_1 v1_2 v2_0 v2_1 v4_0 v4_1 (K : KT ρ) : f62i N (f62c 23) f62p7 (f62s2 v4_2 v1_0 v1_1 v1_2 v2_0 v2_1 v4_0 v4_1) (joinK (some f62l5) K) =
  impl_PrincipalMatrix.Z7 N v4_2 v1_0 v1_1 v1_2 v2_0 v2_1 v4_0 v4_1 (fun v4_2 v2_0 v2_1 v4_0 v4_1 => K .nrm (f62s5 v4_2 v2_0 v2_1 v4_0 v4_1)) :=
 viaSeqS (fun k => impl_PrincipalMatrix.Z8 N v4_2 v1_0 v1_1 v1_2 v2_0 v2_1 v4_0 v4_1 k) (by kernel_rfl) (f62t8 N (K := seqK (fun σ => f62i N (f62c 55) f62p9 σ (joinK (some f62l5) K)) (joinK (some f62l5) K)) ..) (fx9 fun v4_2 v5 v1_0 v1_1 v1_2 v2_0 v2_1 v4_0 v4_1 => f62t9 N v4_2 v5 v1_0 v1_1 v1_2 v2_0 v2_1 v4_0 v4_1 K) (by kernel_rfl)
theorem f62t21 N v4_2 v2_0 v2_1 v4_0 v4_1 (K : KT ρ) : f62i N (f62c 31) .n (f62s5 v4_2 v2_0 v2_1 v4_0 v4_1) (joinK (some f62lE) K) =
  impl_PrincipalMatrix.Z21 N v4_2 v2_0 v2_1 v4_0 v4_1 (fun v2_2 v3 v2_0 v2_1 => K .ret (f62s6 v2_2 v3 v2_0 v2_1)) := by kernel_rfl
noncomputable def f62p6 : Plan := .mk (some f62l5) none f62p7 .n
theorem f62t6 N v4_2 v1_0 v1_1 v1_2 v2_0 v2_1 v4_0 v4_1 (K : KT ρ) : f62i N (f62c 15) f62p6 (f62s2 v4_2 v1_0 v1_1 v1_2 v2_0 v2_1 v4_0 v4_1) (joinK (some f62lE) K) =
  impl_PrincipalMatrix.Z6 N v4_2 v1_0 v1_1 v1_2 v2_0 v2_1 v4_0 v4_1 (fun v2_2 v3 v2_0 v2_1 => K .ret (f62s6 v2_2 v3 v2_0 v2_1)) :=
 viaSeqS (fun k => impl_PrincipalMatrix.Z7 N v4_2 v1_0 v1_1 v1_2 v2_0 v2_1 v4_0 v4_1 k) (by kernel_rfl) (f62t7 N (K := seqK (fun σ => f62i N (f62c 31) .n σ (joinK (some f62lE) K)) (joinK (some f62lE) K)) ..) (fx5 fun v4_2 v2_0 v2_1 v4_0 v4_1 => f62t21 N v4_2 v2_0 v2_1 v4_0 v4_1 K) (by kernel_rfl)
noncomputable def f62p4 : Plan := .mk (some f62l2) none .n f62p6
theorem f62t4 N v1_0 v1_1 v1_2 v2_0 v2_1 (K : KT ρ) : f62i N (f62c 7) f62p4 (f62s1 v1_0 v1_1 v1_2 v2_0 v2_1) (joinK (some f62lE) K) =
  impl_PrincipalMatrix.Z4 N v1_0 v1_1 v1_2 v2_0 v2_1 (fun v2_2 v3 v2_0 v2_1 => K .ret (f62s6 v2_2 v3 v2_0 v2_1)) :=
 viaSeqS (fun k => impl_PrincipalMatrix.Z5 N v1_0 v1_1 v1_2 v2_0 v2_1 k) (by kernel_rfl) (f62t5 N (K := seqK (fun σ => f62i N (f62c 15) f62p6 σ (joinK (some f62lE) K)) (joinK (some f62lE) K)) ..) (fx8 fun v4_2 v1_0 v1_1 v1_2 v2_0 v2_1 v4_0 v4_1 => f62t6 N v4_2 v1_0 v1_1 v1_2 v2_0 v2_1 v4_0 v4_1 K) (by kernel_rfl)
noncomputable def f62p2 : Plan := .mk (some f62l1) none .n f62p4
theorem f62t2 N v1_0 v1_1 v1_2 v2_0 v2_1 (K : KT ρ) : f62i N (f62c 3) f62p2 (f62s1 v1_0 v1_1 v1_2 v2_0 v2_1) (joinK (some f62lE) K) =
  impl_PrincipalMatrix.Z2 N v1_0 v1_1 v1_2 v2_0 v2_1 (fun v2_2 v3 v2_0 v2_1 => K .ret (f62s6 v2_2 v3 v2_0 v2_1)) :=
 viaSeqS (fun k => impl_PrincipalMatrix.Z3 N v1_0 v1_1 v1_2 v2_0 v2_1 k (fun v2_2 v3 v2_0 v2_1 => K .ret (f62s6 v2_2 v3 v2_0 v2_1))) (by kernel_rfl) (f62t3 N (K := seqK (fun σ => f62i N (f62c 7) f62p4 σ (joinK (some f62lE) K)) (joinK (some f62lE) K)) ..) (fx5 fun v1_0 v1_1 v1_2 v2_0 v2_1 => f62t4 N v1_0 v1_1 v1_2 v2_0 v2_1 K) (by kernel_rfl)
noncomputable def f62p0 : Plan := .mk (some f62l1) none .n f62p2
theorem f62t0 N v0 (K : KT ρ) : f62i N (f62c 1) f62p0 (f62s0 v0) (joinK (some f62lE) K) =
  impl_PrincipalMatrix.Z0 N v0 (fun v2_2 v3 v2_0 v2_1 => K .ret (f62s6 v2_2 v3 v2_0 v2_1)) :=
 viaSeqS (fun k => impl_PrincipalMatrix.Z1 N v0 k) (by kernel_rfl) (f62t1 N (K := seqK (fun σ => f62i N (f62c 3) f62p2 σ (joinK (some f62lE) K)) (joinK (some f62lE) K)) ..) (fx5 fun v1_0 v1_1 v1_2 v2_0 v2_1 => f62t2 N v1_0 v1_1 v1_2 v2_0 v2_1 K) (by kernel_rfl)
theorem f62m (N : Nat) (v0 : MT) : f62i N (f62c 1) f62p0 (f62s0 v0) (joinK (some f62lE) (finK tab f62sig Try.f62.results.toList)) = impl_PrincipalMatrix.Z0 N v0 (fun v2_2 v3 v2_0 v2_1 => some ((), ((v2_0, (v2_1, v2_2)), (v3, ())))) :=
  (f62t0 N v0 (finK tab f62sig Try.f62.results.toList)).trans (by kernel_rfl)
theorem f62ok (h : impl_PrincipalMatrix.Spec) : EntryOk Try.prog 62 e62 :=
  entry_of_code (sig := f62sig) (c := (f62c 1)) (pl := f62p0) (je := (some f62lE)) (B := f62B) Try.func62 (by kernel_rfl) (by kernel_rfl) (by kernel_rfl) tabOk f62GOk (by kernel_rfl) (by kernel_rfl) (by kernel_rfl) (by kernel_rfl) fun X hb hp => by
    obtain ⟨v0, _⟩ := X
    obtain ⟨N, h⟩ := h v0 hb.1
    exact ⟨N, (f62m N v0).trans (h N (Nat.le_refl N))⟩
theorem e62ok : EntryOk Try.prog 62 e62 := f62ok impl_PrincipalMatrix.ok
end Go.Fw
namespace Go.Fw
variable {ρ : Type}
open Go.Proofs
noncomputable def f103sig : Sig := ⟨[⟨.pair (.int .i64) (.pair (.int .i64) (.sl 3 (.int .i64))), true, false⟩, ⟨.int .i64, false, false⟩], [⟨.int .i64, false, false⟩]⟩
noncomputable def e103 : Entry := ⟨f103sig, (some fun X => impl_colour.P X.1 X.2.1), fun X => ((), ((impl_colour.g X.1 X.2.1), ()))⟩
noncomputable def f103G : Gm := addG emptyG 83 e83
theorem f103GOk : GOk Try.prog f103G := (GOk.nil).add e83ok (by kernel_rfl)
noncomputable def f103lE : Clean := ⟨[], [], [], [], []⟩
noncomputable def f103s0 (v0 : MT) (v1 : Int) : St := initSt f103sig.ps (v0, (v1, ()))
noncomputable def f103s1 (v1 v2_0 v2_1 : Int) (v2_2 : LI) : St := stOf [(1, xi v1), (2, xb 2)] [(2, (30, [yi v2_0, yi v2_1, .sn 3 tI v2_2 none]))] []
noncomputable def f103l1 : Clean := ⟨[1, 2], [2], [], [], []⟩
noncomputable def f103s2 (v1 : Int) (v5 v6 : Bool) (v2_0 v2_1 : Int) (v2_2 : LI) : St := stOf [(1, xi v1), (2, xb 2), (5, xB v5), (6, xB v6)] [(2, (30, [yi v2_0, yi v2_1, .sn 3 tI v2_2 none]))] []
noncomputable def f103l2 : Clean := ⟨[1, 2, 5, 6], [2], [], [], []⟩
noncomputable def f103s3 (v1 : Int) (v5 v6 : Bool) (v7 v2_0 v2_1 : Int) (v2_2 : LI) : St := stOf [(1, xi v1), (2, xb 2), (5, xB v5), (6, xB v6), (7, xi v7)] [(2, (30, [yi v2_0, yi v2_1, .sn 3 tI v2_2 none]))] []
noncomputable def f103l3 : Clean := ⟨[1, 2, 5, 6, 7], [2], [], [], []⟩
noncomputable def f103s4 (v5 v6 : Bool) : St := stOf [(5, xB v5), (6, xB v6)] [] []
noncomputable def f103l4 : Clean := ⟨[5, 6], [], [], [], []⟩
noncomputable def f103s5 (v4 : Int) : St := stOf [(4, xi v4)] [] []
noncomputable def f103l5 : Clean := ⟨[4], [], [], [], []⟩
noncomputable def f103B : Nat → Option Clean := lookL [(0, f103l4), (1000000, f103l5)]
noncomputable abbrev f103i {ρ : Type} (N : Nat) (c : Code) (p : Plan) (σ : St) (K : KT ρ) : Option ρ := iCode f103G tab f103B N c p σ K
noncomputable def f103c (n : Nat) : Code := codeN 99 (bodyOf Try.f103) n
theorem f103t1 N v0 v1 (K : KT ρ) : f103i N (f103c 2) .n (f103s0 v0 v1) (joinK (some f103l1) K) =
  impl_colour.Z1 N v0 v1 (fun v1 v2_0 v2_1 v2_2 => K .nrm (f103s1 v1 v2_0 v2_1 v2_2)) := by kernel_rfl
theorem f103t3 N v1 v2_0 v2_1 v2_2 (K : KT ρ) : f103i N (f103c 5) .n (f103s1 v1 v2_0 v2_1 v2_2) (joinK (some f103l2) K) =
  impl_colour.Z3 N v1 v2_0 v2_1 v2_2 (fun v1 v5 v6 v2_0 v2_1 v2_2 => K .nrm (f103s2 v1 v5 v6 v2_0 v2_1 v2_2)) := by kernel_rfl
theorem f103t6 N v1 v5 v6 v2_0 v2_1 v2_2 (K : KT ρ) : f103i N (f103c 19) .n (f103s2 v1 v5 v6 v2_0 v2_1 v2_2) (joinK (some f103l3) K) =
  impl_colour.Z6 N v1 v5 v6 v2_0 v2_1 v2_2 (fun v1 v5 v6 v7 v2_0 v2_1 v2_2 => K .nrm (f103s3 v1 v5 v6 v7 v2_0 v2_1 v2_2)) := by kernel_rfl
theorem f103t9 N v1 v5 v6 v7 v2_0 v2_1 v2_2 (K : KT ρ) : f103i N (f103c 75) .n (f103s3 v1 v5 v6 v7 v2_0 v2_1 v2_2) (joinK (some f103l3) K) =
  impl_colour.Z9 N v1 v5 v6 v7 v2_0 v2_1 v2_2 (fun v1 v5 v6 v7 v2_0 v2_1 v2_2 => K .nrm (f103s3 v1 v5 v6 v7 v2_0 v2_1 v2_2)) (fun v5 v6 => K (.exit 0) (f103s4 v5 v6)) := by kernel_rfl
noncomputable def f103p8 : Plan := .mk none (some f103l3) .n .n
noncomputable abbrev f103w8 {ρ : Type} (N M : Nat) (σ : St) (K : KT ρ) : Option ρ := loopC (fun σ K => f103i N (f103c 75) .n σ K) f103l3 M σ K
theorem f103t8L {ρ : Type} (N : Nat) (K : KT ρ) : ∀ (M : Nat) (v1 : Int) (v5 v6 : Bool) (v7 v2_0 v2_1 : Int) (v2_2 : LI), f103w8 N M (f103s3 v1 v5 v6 v7 v2_0 v2_1 v2_2) K =
  impl_colour.Z8L N (fun v5 v6 => K (.exit 0) (f103s4 v5 v6)) M v1 v5 v6 v7 v2_0 v2_1 v2_2
  | 0, _, _, _, _, _, _, _ => rfl
  | M + 1, v1, v5, v6, v7, v2_0, v2_1, v2_2 => viaRoundS (fun k => impl_colour.Z9 N v1 v5 v6 v7 v2_0 v2_1 v2_2 k (fun v5 v6 => K (.exit 0) (f103s4 v5 v6))) (f103t9 N (K := seqK (fun σ => f103w8 N M σ K) K) ..) (fx7 fun v1 v5 v6 v7 v2_0 v2_1 v2_2 => f103t8L N K M v1 v5 v6 v7 v2_0 v2_1 v2_2) (by kernel_rfl)
theorem f103t8 N v1 v5 v6 v7 v2_0 v2_1 v2_2 (K : KT ρ) : f103i N (f103c 43) f103p8 (f103s3 v1 v5 v6 v7 v2_0 v2_1 v2_2) (joinK (some f103l4) K) =
  impl_colour.Z8 N v1 v5 v6 v7 v2_0 v2_1 v2_2 (fun v5 v6 => K (.exit 0) (f103s4 v5 v6)) :=
 viaLoopS (by kernel_rfl) (f103t8L N (joinK (some f103l4) K) N v1 v5 v6 v7 v2_0 v2_1 v2_2) (by kernel_rfl)
noncomputable def f103p7 : Plan := .mk (some f103l4) none f103p8 .n
theorem f103t7 N v1 v5 v6 v7 v2_0 v2_1 v2_2 (K : KT ρ) : f103i N (f103c 27) f103p7 (f103s3 v1 v5 v6 v7 v2_0 v2_1 v2_2) (joinK (some f103l4) K) =
  impl_colour.Z7 N v1 v5 v6 v7 v2_0 v2_1 v2_2 (fun v5 v6 => K .nrm (f103s4 v5 v6)) :=
 viaBlockS (by kernel_rfl) (f103t8 N (K := blockK 0 (joinK (some f103l4) K)) ..) (by kernel_rfl)
noncomputable def f103p5 : Plan := .mk (some f103l3) none .n f103p7
theorem f103t5 N v1 v5 v6 v2_0 v2_1 v2_2 (K : KT ρ) : f103i N (f103c 11) f103p5 (f103s2 v1 v5 v6 v2_0 v2_1 v2_2) (joinK (some f103l4) K) =
  impl_colour.Z5 N v1 v5 v6 v2_0 v2_1 v2_2 (fun v5 v6 => K .nrm (f103s4 v5 v6)) :=
 viaSeqS (fun k => impl_colour.Z6 N v1 v5 v6 v2_0 v2_1 v2_2 k) (by kernel_rfl) (f103t6 N (K := seqK (fun σ => f103i N (f103c 27) f103p7 σ (joinK (some f103l4) K)) (joinK (some f103l4) K)) ..) (fx7 fun v1 v5 v6 v7 v2_0 v2_1 v2_2 => f103t7 N v1 v5 v6 v7 v2_0 v2_1 v2_2 K) (by kernel_rfl)
theorem f103t10 N v5 v6 (K : KT ρ) : f103i N (f103c 15) .n (f103s4 v5 v6) (joinK (some f103lE) K) =
  impl_colour.Z10 N v5 v6 (fun v4 => K .ret (f103s5 v4)) := by kernel_rfl
noncomputable def f103p4 : Plan := .mk (some f103l4) none f103p5 .n
theorem f103t4 N v1 v5 v6 v2_0 v2_1 v2_2 (K : KT ρ) : f103i N (f103c 7) f103p4 (f103s2 v1 v5 v6 v2_0 v2_1 v2_2) (joinK (some f103lE) K) =
  impl_colour.Z4 N v1 v5 v6 v2_0 v2_1 v2_2 (fun v4 => K .ret (f103s5 v4)) :=
 viaSeqS (fun k => impl_colour.Z5 N v1 v5 v6 v2_0 v2_1 v2_2 k) (by kernel_rfl) (f103t5 N (K := seqK (fun σ => f103i N (f103c 15) .n σ (joinK (some f103lE) K)) (joinK (some f103lE) K)) ..) (fx2 fun v5 v6 => f103t10 N v5 v6 K) (by kernel_rfl)
noncomputable def f103p2 : Plan := .mk (some f103l2) none .n f103p4
theorem f103t2 N v1 v2_0 v2_1 v2_2 (K : KT ρ) : f103i N (f103c 3) f103p2 (f103s1 v1 v2_0 v2_1 v2_2) (joinK (some f103lE) K) =
  impl_colour.Z2 N v1 v2_0 v2_1 v2_2 (fun v4 => K .ret (f103s5 v4)) :=
 viaSeqS (fun k => impl_colour.Z3 N v1 v2_0 v2_1 v2_2 k) (by kernel_rfl) (f103t3 N (K := seqK (fun σ => f103i N (f103c 7) f103p4 σ (joinK (some f103lE) K)) (joinK (some f103lE) K)) ..) (fx6 fun v1 v5 v6 v2_0 v2_1 v2_2 => f103t4 N v1 v5 v6 v2_0 v2_1 v2_2 K) (by kernel_rfl)
noncomputable def f103p0 : Plan := .mk (some f103l1) none .n f103p2
theorem f103t0 N v0 v1 (K : KT ρ) : f103i N (f103c 1) f103p0 (f103s0 v0 v1) (joinK (some f103lE) K) =
  impl_colour.Z0 N v0 v1 (fun v4 => K .ret (f103s5 v4)) :=
 viaSeqS (fun k => impl_colour.Z1 N v0 v1 k) (by kernel_rfl) (f103t1 N (K := seqK (fun σ => f103i N (f103c 3) f103p2 σ (joinK (some f103lE) K)) (joinK (some f103lE) K)) ..) (fx4 fun v1 v2_0 v2_1 v2_2 => f103t2 N v1 v2_0 v2_1 v2_2 K) (by kernel_rfl)
theorem f103m (N : Nat) (v0 : MT) (v1 : Int) : f103i N (f103c 1) f103p0 (f103s0 v0 v1) (joinK (some f103lE) (finK tab f103sig Try.f103.results.toList)) = impl_colour.Z0 N v0 v1 (fun v4 => some ((), (v4, ()))) :=
  (f103t0 N v0 v1 (finK tab f103sig Try.f103.results.toList)).trans (by kernel_rfl)
theorem f103ok (h : impl_colour.Spec) : EntryOk Try.prog 103 e103 :=
  entry_of_code (sig := f103sig) (c := (f103c 1)) (pl := f103p0) (je := (some f103lE)) (B := f103B) Try.func103 (by kernel_rfl) (by kernel_rfl) (by kernel_rfl) tabOk f103GOk (by kernel_rfl) (by kernel_rfl) (by kernel_rfl) (by kernel_rfl) fun X hb hp => by
    obtain ⟨v0, v1, _⟩ := X
    obtain ⟨N, h⟩ := h v0 v1 hb.1 hp
    exact ⟨N, (f103m N v0 v1).trans (h N (Nat.le_refl N))⟩
theorem e103ok : EntryOk Try.prog 103 e103 := f103ok impl_colour.ok
end Go.Fw
namespace Go.Fw
variable {ρ : Type}
open Go.Proofs
noncomputable def f71sig : Sig := ⟨[⟨.pair (.int .i64) (.pair (.int .i64) (.sl 3 (.int .i64))), true, false⟩, ⟨.int .i64, false, false⟩], [⟨.pair (.int .i64) (.pair (.int .i64) (.sl 3 (.int .i64))), true, false⟩]⟩
noncomputable def e71 : Entry := ⟨f71sig, (some fun X => impl_mutated.P X.1 X.2.1), fun X => ((), ((impl_mutated.g X.1 X.2.1), ()))⟩
noncomputable def f71G : Gm := addG (addG emptyG 83 e83) 91 e91
theorem f71GOk : GOk Try.prog f71G := ((GOk.nil).add e83ok (by kernel_rfl)).add e91ok (by kernel_rfl)
noncomputable def f71lE : Clean := ⟨[], [], [], [], []⟩
noncomputable def f71s0 (v0 : MT) (v1 : Int) : St := initSt f71sig.ps (v0, (v1, ()))
noncomputable def f71s1 (v1 v2_0 v2_1 : Int) (v2_2 : LI) (v4_0 v4_1 : Int) : St := stOf [(1, xi v1), (2, xb 2), (4, xb 4)] [(2, (30, [yi v2_0, yi v2_1, .sn 3 tI v2_2 none])), (4, (30, [yi v4_0, yi v4_1, .nil]))] []
noncomputable def f71l1 : Clean := ⟨[1, 2, 4], [2, 4], [], [], []⟩
noncomputable def f71s2 (v5_2 : LI) (v1 v2_0 v2_1 : Int) (v2_2 : LI) (v4_0 v4_1 v5_0 v5_1 : Int) : St := stOf [(1, xi v1), (2, xb 2), (4, xb 4), (5, xb 5)] [(2, (30, [yi v2_0, yi v2_1, .sn 3 tI v2_2 none])), (4, (30, [yi v4_0, yi v4_1, .nil])), (5, (30, [yi v5_0, yi v5_1, .own 20000322]))] [(20000322, (⟨3, .int .i64, v5_2, true, false⟩ : Row))]
noncomputable def f71l2 : Clean := ⟨[1, 2, 4, 5], [2, 4, 5], [], [], [(⟨true, 5, 2⟩, 20000322)]⟩
noncomputable def f71s3 (v5_2 : LI) (v1 v6 v2_0 v2_1 : Int) (v2_2 : LI) (v4_0 v4_1 v5_0 v5_1 : Int) : St := stOf [(1, xi v1), (2, xb 2), (4, xb 4), (5, xb 5), (6, xi v6)] [(2, (30, [yi v2_0, yi v2_1, .sn 3 tI v2_2 none])), (4, (30, [yi v4_0, yi v4_1, .nil])), (5, (30, [yi v5_0, yi v5_1, .own 20000322]))] [(20000322, (⟨3, .int .i64, v5_2, true, false⟩ : Row))]
noncomputable def f71l3 : Clean := ⟨[1, 2, 4, 5, 6], [2, 4, 5], [], [], [(⟨true, 5, 2⟩, 20000322)]⟩
noncomputable def f71s4 (v5_2 : LI) (v1 v6 v7 v2_0 v2_1 : Int) (v2_2 : LI) (v4_0 v4_1 v5_0 v5_1 : Int) : St := stOf [(1, xi v1), (2, xb 2), (4, xb 4), (5, xb 5), (6, xi v6), (7, xi v7)] [(2, (30, [yi v2_0, yi v2_1, .sn 3 tI v2_2 none])), (4, (30, [yi v4_0, yi v4_1, .nil])), (5, (30, [yi v5_0, yi v5_1, .own 20000322]))] [(20000322, (⟨3, .int .i64, v5_2, true, false⟩ : Row))]
noncomputable def f71l4 : Clean := ⟨[1, 2, 4, 5, 6, 7], [2, 4, 5], [], [], [(⟨true, 5, 2⟩, 20000322)]⟩
noncomputable def f71s5 (v5_2 : LI) (v1 v6 v7 v8 v2_0 v2_1 : Int) (v2_2 : LI) (v4_0 v4_1 v5_0 v5_1 : Int) : St := stOf [(1, xi v1), (2, xb 2), (4, xb 4), (5, xb 5), (6, xi v6), (7, xi v7), (8, .c (.elt 20000322 v8 0))] [(2, (30, [yi v2_0, yi v2_1, .sn 3 tI v2_2 none])), (4, (30, [yi v4_0, yi v4_1, .nil])), (5, (30, [yi v5_0, yi v5_1, .own 20000322]))] [(20000322, (⟨3, .int .i64, v5_2, true, false⟩ : Row))]
noncomputable def f71l5 : Clean := ⟨[1, 2, 4, 5, 6, 7, 8], [2, 4, 5], [], [], [(⟨true, 5, 2⟩, 20000322)]⟩
noncomputable def f71s6 (v5_2 : LI) (v1 v6 v7 v8 v9 v10 v2_0 v2_1 : Int) (v2_2 : LI) (v4_0 v4_1 v5_0 v5_1 : Int) : St := stOf [(1, xi v1), (2, xb 2), (4, xb 4), (5, xb 5), (6, xi v6), (7, xi v7), (8, .c (.elt 20000322 v8 0)), (9, xi v9), (10, xi v10)] [(2, (30, [yi v2_0, yi v2_1, .sn 3 tI v2_2 none])), (4, (30, [yi v4_0, yi v4_1, .nil])), (5, (30, [yi v5_0, yi v5_1, .own 20000322]))] [(20000322, (⟨3, .int .i64, v5_2, true, false⟩ : Row))]
noncomputable def f71l6 : Clean := ⟨[1, 2, 4, 5, 6, 7, 8, 9, 10], [2, 4, 5], [], [], [(⟨true, 5, 2⟩, 20000322)]⟩
noncomputable def f71s7 (v5_2 : LI) (v1 v6 v7 v8 v9 v10 : Int) (v48 : Bool) (v2_0 v2_1 : Int) (v2_2 : LI) (v4_0 v4_1 v5_0 v5_1 : Int) : St := stOf [(1, xi v1), (2, xb 2), (4, xb 4), (5, xb 5), (6, xi v6), (7, xi v7), (8, .c (.elt 20000322 v8 0)), (9, xi v9), (10, xi v10), (48, xB v48)] [(2, (30, [yi v2_0, yi v2_1, .sn 3 tI v2_2 none])), (4, (30, [yi v4_0, yi v4_1, .nil])), (5, (30, [yi v5_0, yi v5_1, .own 20000322]))] [(20000322, (⟨3, .int .i64, v5_2, true, false⟩ : Row))]
noncomputable def f71l7 : Clean := ⟨[1, 2, 4, 5, 6, 7, 8, 9, 10, 48], [2, 4, 5], [], [], [(⟨true, 5, 2⟩, 20000322)]⟩
noncomputable def f71s8 (v5_2 : LI) (v4_0 v4_1 v5_0 v5_1 : Int) : St := stOf [(4, xb 4), (5, xb 5)] [(4, (30, [yi v4_0, yi v4_1, .nil])), (5, (30, [yi v5_0, yi v5_1, .own 20000322]))] [(20000322, (⟨3, .int .i64, v5_2, true, false⟩ : Row))]
noncomputable def f71l8 : Clean := ⟨[4, 5], [4, 5], [], [], [(⟨true, 5, 2⟩, 20000322)]⟩
noncomputable def f71s9 (v4_2 : LI) (v4_0 v4_1 : Int) : St := stOf [(4, xb 4)] [(4, (30, [yi v4_0, yi v4_1, .own 20000258]))] [(20000258, (⟨3, .int .i64, v4_2, true, false⟩ : Row))]
noncomputable def f71l9 : Clean := ⟨[4], [4], [], [], [(⟨true, 4, 2⟩, 20000258)]⟩
noncomputable def f71B : Nat → Option Clean := lookL [(4, f71l4), (3, f71l4), (2, f71l3), (1, f71l3), (0, f71l8), (1000000, f71l9)]
noncomputable abbrev f71i {ρ : Type} (N : Nat) (c : Code) (p : Plan) (σ : St) (K : KT ρ) : Option ρ := iCode f71G tab f71B N c p σ K
noncomputable def f71c (n : Nat) : Code := codeN 99 (bodyOf Try.f71) n
theorem f71t1 N v0 v1 (K : KT ρ) : f71i N (f71c 2) .n (f71s0 v0 v1) (joinK (some f71l1) K) =
  impl_mutated.Z1 N v0 v1 (fun v1 v2_0 v2_1 v2_2 v4_0 v4_1 => K .nrm (f71s1 v1 v2_0 v2_1 v2_2 v4_0 v4_1)) := by kernel_rfl
theorem f71t3 N v1 v2_0 v2_1 v2_2 v4_0 v4_1 (K : KT ρ) : f71i N (f71c 5) .n (f71s1 v1 v2_0 v2_1 v2_2 v4_0 v4_1) (joinK (some f71l2) K) =
  impl_mutated.Z3 N v1 v2_0 v2_1 v2_2 v4_0 v4_1 (fun v5_2 v1 v2_0 v2_1 v2_2 v4_0 v4_1 v5_0 v5_1 => K .nrm (f71s2 v5_2 v1 v2_0 v2_1 v2_2 v4_0 v4_1 v5_0 v5_1)) := by kernel_rfl
theorem f71t6 N v5_2 v1 v2_0 v2_1 v2_2 v4_0 v4_1 v5_0 v5_1 (K : KT ρ) : f71i N (f71c 19) .n (f71s2 v5_2 v1 v2_0 v2_1 v2_2 v4_0 v4_1 v5_0 v5_1) (joinK (some f71l3) K) =
  impl_mutated.Z6 N v5_2 v1 v2_0 v2_1 v2_2 v4_0 v4_1 v5_0 v5_1 (fun v5_2 v1 v6 v2_0 v2_1 v2_2 v4_0 v4_1 v5_0 v5_1 => K .nrm (f71s3 v5_2 v1 v6 v2_0 v2_1 v2_2 v4_0 v4_1 v5_0 v5_1)) := by kernel_rfl
theorem f71t10 N v5_2 v1 v6 v2_0 v2_1 v2_2 v4_0 v4_1 v5_0 v5_1 (K : KT ρ) : f71i N (f71c 139) .n (f71s3 v5_2 v1 v6 v2_0 v2_1 v2_2 v4_0 v4_1 v5_0 v5_1) (joinK (some f71l3) K) =
  impl_mutated.Z10 N v5_2 v1 v6 v2_0 v2_1 v2_2 v4_0 v4_1 v5_0 v5_1 (fun v5_2 v1 v6 v2_0 v2_1 v2_2 v4_0 v4_1 v5_0 v5_1 => K .nrm (f71s3 v5_2 v1 v6 v2_0 v2_1 v2_2 v4_0 v4_1 v5_0 v5_1)) (fun v5_2 v4_0 v4_1 v5_0 v5_1 => K (.exit 0) (f71s8 v5_2 v4_0 v4_1 v5_0 v5_1)) := by kernel_rfl
theorem f71t14 N v5_2 v1 v6 v2_0 v2_1 v2_2 v4_0 v4_1 v5_0 v5_1 (K : KT ρ) : f71i N (f71c 1099) .n (f71s3 v5_2 v1 v6 v2_0 v2_1 v2_2 v4_0 v4_1 v5_0 v5_1) (joinK (some f71l4) K) =
  impl_mutated.Z14 N v5_2 v1 v6 v2_0 v2_1 v2_2 v4_0 v4_1 v5_0 v5_1 (fun v5_2 v1 v6 v7 v2_0 v2_1 v2_2 v4_0 v4_1 v5_0 v5_1 => K .nrm (f71s4 v5_2 v1 v6 v7 v2_0 v2_1 v2_2 v4_0 v4_1 v5_0 v5_1)) := by kernel_rfl
theorem f71t18 N v5_2 v1 v6 v7 v2_0 v2_1 v2_2 v4_0 v4_1 v5_0 v5_1 (K : KT ρ) : f71i N (f71c 8779) .n (f71s4 v5_2 v1 v6 v7 v2_0 v2_1 v2_2 v4_0 v4_1 v5_0 v5_1) (joinK (some f71l4) K) =
  impl_mutated.Z18 N v5_2 v1 v6 v7 v2_0 v2_1 v2_2 v4_0 v4_1 v5_0 v5_1 (fun v5_2 v1 v6 v7 v2_0 v2_1 v2_2 v4_0 v4_1 v5_0 v5_1 => K .nrm (f71s4 v5_2 v1 v6 v7 v2_0 v2_1 v2_2 v4_0 v4_1 v5_0 v5_1)) (fun v5_2 v1 v6 v2_0 v2_1 v2_2 v4_0 v4_1 v5_0 v5_1 => K (.exit 2) (f71s3 v5_2 v1 v6 v2_0 v2_1 v2_2 v4_0 v4_1 v5_0 v5_1)) := by kernel_rfl
theorem f71t22 N v5_2 v1 v6 v7 v2_0 v2_1 v2_2 v4_0 v4_1 v5_0 v5_1 (K : KT ρ) : f71i N (f71c 70219) .n (f71s4 v5_2 v1 v6 v7 v2_0 v2_1 v2_2 v4_0 v4_1 v5_0 v5_1) (joinK (some f71l5) K) =
  impl_mutated.Z22 N v5_2 v1 v6 v7 v2_0 v2_1 v2_2 v4_0 v4_1 v5_0 v5_1 (fun v5_2 v1 v6 v7 v8 v2_0 v2_1 v2_2 v4_0 v4_1 v5_0 v5_1 => K .nrm (f71s5 v5_2 v1 v6 v7 v8 v2_0 v2_1 v2_2 v4_0 v4_1 v5_0 v5_1)) := by kernel_rfl
theorem f71t24 N v5_2 v1 v6 v7 v8 v2_0 v2_1 v2_2 v4_0 v4_1 v5_0 v5_1 (K : KT ρ) : f71i N (f71c 168523) .n (f71s5 v5_2 v1 v6 v7 v8 v2_0 v2_1 v2_2 v4_0 v4_1 v5_0 v5_1) (joinK (some f71l6) K) =
  impl_mutated.Z24 N v5_2 v1 v6 v7 v8 v2_0 v2_1 v2_2 v4_0 v4_1 v5_0 v5_1 (fun v5_2 v1 v6 v7 v8 v9 v10 v2_0 v2_1 v2_2 v4_0 v4_1 v5_0 v5_1 => K .nrm (f71s6 v5_2 v1 v6 v7 v8 v9 v10 v2_0 v2_1 v2_2 v4_0 v4_1 v5_0 v5_1)) := by kernel_rfl
theorem f71t27 N v5_2 v1 v6 v7 v8 v9 v10 v2_0 v2_1 v2_2 v4_0 v4_1 v5_0 v5_1 (K : KT ρ) : f71i N (f71c 627275) .n (f71s6 v5_2 v1 v6 v7 v8 v9 v10 v2_0 v2_1 v2_2 v4_0 v4_1 v5_0 v5_1) (joinK (some f71l7) K) =
  impl_mutated.Z27 N v5_2 v1 v6 v7 v8 v9 v10 v2_0 v2_1 v2_2 v4_0 v4_1 v5_0 v5_1 (fun v5_2 v1 v6 v7 v8 v9 v10 v48 v2_0 v2_1 v2_2 v4_0 v4_1 v5_0 v5_1 => K .nrm (f71s7 v5_2 v1 v6 v7 v8 v9 v10 v48 v2_0 v2_1 v2_2 v4_0 v4_1 v5_0 v5_1)) := by kernel_rfl
theorem f71t28 N v5_2 v1 v6 v7 v8 v9 v10 v48 v2_0 v2_1 v2_2 v4_0 v4_1 v5_0 v5_1 (K : KT ρ) : f71i N (f71c 889419) .n (f71s7 v5_2 v1 v6 v7 v8 v9 v10 v48 v2_0 v2_1 v2_2 v4_0 v4_1 v5_0 v5_1) (joinK (some f71l4) K) =
  impl_mutated.Z28 N v5_2 v1 v6 v7 v8 v9 v10 v48 v2_0 v2_1 v2_2 v4_0 v4_1 v5_0 v5_1 (fun v5_2 v1 v6 v7 v2_0 v2_1 v2_2 v4_0 v4_1 v5_0 v5_1 => K .nrm (f71s4 v5_2 v1 v6 v7 v2_0 v2_1 v2_2 v4_0 v4_1 v5_0 v5_1)) := by kernel_rfl
noncomputable def f71p26 : Plan := .mk (some f71l7) none .n .n
theorem f71t26 N v5_2 v1 v6 v7 v8 v9 v10 v2_0 v2_1 v2_2 v4_0 v4_1 v5_0 v5_1 (K : KT ρ) : f71i N (f71c 365131) f71p26 (f71s6 v5_2 v1 v6 v7 v8 v9 v10 v2_0 v2_1 v2_2 v4_0 v4_1 v5_0 v5_1) (joinK (some f71l4) K) =
  impl_mutated.Z26 N v5_2 v1 v6 v7 v8 v9 v10 v2_0 v2_1 v2_2 v4_0 v4_1 v5_0 v5_1 (fun v5_2 v1 v6 v7 v2_0 v2_1 v2_2 v4_0 v4_1 v5_0 v5_1 => K .nrm (f71s4 v5_2 v1 v6 v7 v2_0 v2_1 v2_2 v4_0 v4_1 v5_0 v5_1)) :=
 viaSeqS (fun k => impl_mutated.Z27 N v5_2 v1 v6 v7 v8 v9 v10 v2_0 v2_1 v2_2 v4_0 v4_1 v5_0 v5_1 k) (by kernel_rfl) (f71t27 N (K := seqK (fun σ => f71i N (f71c 889419) .n σ (joinK (some f71l4) K)) (joinK (some f71l4) K)) ..) (fx15 fun v5_2 v1 v6 v7 v8 v9 v10 v48 v2_0 v2_1 v2_2 v4_0 v4_1 v5_0 v5_1 => f71t28 N v5_2 v1 v6 v7 v8 v9 v10 v48 v2_0 v2_1 v2_2 v4_0 v4_1 v5_0 v5_1 K) (by kernel_rfl)
noncomputable def f71p25 : Plan := .mk (some f71l4) none f71p26 .n
theorem f71t25 N v5_2 v1 v6 v7 v8 v9 v10 v2_0 v2_1 v2_2 v4_0 v4_1 v5_0 v5_1 (K : KT ρ) : f71i N (f71c 234059) f71p25 (f71s6 v5_2 v1 v6 v7 v8 v9 v10 v2_0 v2_1 v2_2 v4_0 v4_1 v5_0 v5_1) (joinK (some f71l4) K) =
  impl_mutated.Z25 N v5_2 v1 v6 v7 v8 v9 v10 v2_0 v2_1 v2_2 v4_0 v4_1 v5_0 v5_1 (fun v5_2 v1 v6 v7 v2_0 v2_1 v2_2 v4_0 v4_1 v5_0 v5_1 => K .nrm (f71s4 v5_2 v1 v6 v7 v2_0 v2_1 v2_2 v4_0 v4_1 v5_0 v5_1)) :=
 viaBlockS (by kernel_rfl) (f71t26 N (K := blockK 4 (joinK (some f71l4) K)) ..) (by kernel_rfl)
noncomputable def f71p23 : Plan := .mk (some f71l6) none .n f71p25
theorem f71t23 N v5_2 v1 v6 v7 v8 v2_0 v2_1 v2_2 v4_0 v4_1 v5_0 v5_1 (K : KT ρ) : f71i N (f71c 102987) f71p23 (f71s5 v5_2 v1 v6 v7 v8 v2_0 v2_1 v2_2 v4_0 v4_1 v5_0 v5_1) (joinK (some f71l4) K) =
  impl_mutated.Z23 N v5_2 v1 v6 v7 v8 v2_0 v2_1 v2_2 v4_0 v4_1 v5_0 v5_1 (fun v5_2 v1 v6 v7 v2_0 v2_1 v2_2 v4_0 v4_1 v5_0 v5_1 => K .nrm (f71s4 v5_2 v1 v6 v7 v2_0 v2_1 v2_2 v4_0 v4_1 v5_0 v5_1)) :=
 viaSeqS (fun k => impl_mutated.Z24 N v5_2 v1 v6 v7 v8 v2_0 v2_1 v2_2 v4_0 v4_1 v5_0 v5_1 k) (by kernel_rfl) (f71t24 N (K := seqK (fun σ => f71i N (f71c 234059) f71p25 σ (joinK (some f71l4) K)) (joinK (some f71l4) K)) ..) (fx14 fun v5_2 v1 v6 v7 v8 v9 v10 v2_0 v2_1 v2_2 v4_0 v4_1 v5_0 v5_1 => f71t25 N v5_2 v1 v6 v7 v8 v9 v10 v2_0 v2_1 v2_2 v4_0 v4_1 v5_0 v5_1 K) (by kernel_rfl)
noncomputable def f71p21 : Plan := .mk (some f71l5) none .n f71p23
theorem f71t21 N v5_2 v1 v6 v7 v2_0 v2_1 v2_2 v4_0 v4_1 v5_0 v5_1 (K : KT ρ) : f71i N (f71c 37451) f71p21 (f71s4 v5_2 v1 v6 v7 v2_0 v2_1 v2_2 v4_0 v4_1 v5_0 v5_1) (joinK (some f71l4) K) =
  impl_mutated.Z21 N v5_2 v1 v6 v7 v2_0 v2_1 v2_2 v4_0 v4_1 v5_0 v5_1 (fun v5_2 v1 v6 v7 v2_0 v2_1 v2_2 v4_0 v4_1 v5_0 v5_1 => K .nrm (f71s4 v5_2 v1 v6 v7 v2_0 v2_1 v2_2 v4_0 v4_1 v5_0 v5_1)) :=
 viaSeqS (fun k => impl_mutated.Z22 N v5_2 v1 v6 v7 v2_0 v2_1 v2_2 v4_0 v4_1 v5_0 v5_1 k) (by kernel_rfl) (f71t22 N (K := seqK (fun σ => f71i N (f71c 102987) f71p23 σ (joinK (some f71l4) K)) (joinK (some f71l4) K)) ..) (fx12 fun v5_2 v1 v6 v7 v8 v2_0 v2_1 v2_2 v4_0 v4_1 v5_0 v5_1 => f71t23 N v5_2 v1 v6 v7 v8 v2_0 v2_1 v2_2 v4_0 v4_1 v5_0 v5_1 K) (by kernel_rfl)
noncomputable def f71p20 : Plan := .mk (some f71l4) none f71p21 .n
theorem f71t20 N v5_2 v1 v6 v7 v2_0 v2_1 v2_2 v4_0 v4_1 v5_0 v5_1 (K : KT ρ) : f71i N (f71c 21067) f71p20 (f71s4 v5_2 v1 v6 v7 v2_0 v2_1 v2_2 v4_0 v4_1 v5_0 v5_1) (joinK (some f71l4) K) =
  impl_mutated.Z20 N v5_2 v1 v6 v7 v2_0 v2_1 v2_2 v4_0 v4_1 v5_0 v5_1 (fun v5_2 v1 v6 v7 v2_0 v2_1 v2_2 v4_0 v4_1 v5_0 v5_1 => K .nrm (f71s4 v5_2 v1 v6 v7 v2_0 v2_1 v2_2 v4_0 v4_1 v5_0 v5_1)) :=
 viaBlockS (by kernel_rfl) (f71t21 N (K := blockK 3 (joinK (some f71l4) K)) ..) (by kernel_rfl)
theorem f71t29 N v5_2 v1 v6 v7 v2_0 v2_1 v2_2 v4_0 v4_1 v5_0 v5_1 (K : KT ρ) : f71i N (f71c 29259) .n (f71s4 v5_2 v1 v6 v7 v2_0 v2_1 v2_2 v4_0 v4_1 v5_0 v5_1) (joinK (some f71l4) K) =
  impl_mutated.Z29 N v5_2 v1 v6 v7 v2_0 v2_1 v2_2 v4_0 v4_1 v5_0 v5_1 (fun v5_2 v1 v6 v7 v2_0 v2_1 v2_2 v4_0 v4_1 v5_0 v5_1 => K .nrm (f71s4 v5_2 v1 v6 v7 v2_0 v2_1 v2_2 v4_0 v4_1 v5_0 v5_1)) := by kernel_rfl
noncomputable def f71p19 : Plan := .mk (some f71l4) none f71p20 .n
theorem f71t19 N v5_2 v1 v6 v7 v2_0 v2_1 v2_2 v4_0 v4_1 v5_0 v5_1 (K : KT ρ) : f71i N (f71c 12875) f71p19 (f71s4 v5_2 v1 v6 v7 v2_0 v2_1 v2_2 v4_0 v4_1 v5_0 v5_1) (joinK (some f71l4) K) =
  impl_mutated.Z19 N v5_2 v1 v6 v7 v2_0 v2_1 v2_2 v4_0 v4_1 v5_0 v5_1 (fun v5_2 v1 v6 v7 v2_0 v2_1 v2_2 v4_0 v4_1 v5_0 v5_1 => K .nrm (f71s4 v5_2 v1 v6 v7 v2_0 v2_1 v2_2 v4_0 v4_1 v5_0 v5_1)) :=
 viaSeqS (fun k => impl_mutated.Z20 N v5_2 v1 v6 v7 v2_0 v2_1 v2_2 v4_0 v4_1 v5_0 v5_1 k) (by kernel_rfl) (f71t20 N (K := seqK (fun σ => f71i N (f71c 29259) .n σ (joinK (some f71l4) K)) (joinK (some f71l4) K)) ..) (fx11 fun v5_2 v1 v6 v7 v2_0 v2_1 v2_2 v4_0 v4_1 v5_0 v5_1 => f71t29 N v5_2 v1 v6 v7 v2_0 v2_1 v2_2 v4_0 v4_1 v5_0 v5_1 K) (by kernel_rfl)
noncomputable def f71p17 : Plan := .mk (some f71l4) none .n f71p19
theorem f71t17 N v5_2 v1 v6 v7 v2_0 v2_1 v2_2 v4_0 v4_1 v5_0 v5_1 (K : KT ρ) : f71i N (f71c 4683) f71p17 (f71s4 v5_2 v1 v6 v7 v2_0 v2_1 v2_2 v4_0 v4_1 v5_0 v5_1) (joinK (some f71l4) K) =
  impl_mutated.Z17 N v5_2 v1 v6 v7 v2_0 v2_1 v2_2 v4_0 v4_1 v5_0 v5_1 (fun v5_2 v1 v6 v7 v2_0 v2_1 v2_2 v4_0 v4_1 v5_0 v5_1 => K .nrm (f71s4 v5_2 v1 v6 v7 v2_0 v2_1 v2_2 v4_0 v4_1 v5_0 v5_1)) (fun v5_2 v1 v6 v2_0 v2_1 v2_2 v4_0 v4_1 v5_0 v5_1 => K (.exit 2) (f71s3 v5_2 v1 v6 v2_0 v2_1 v2_2 v4_0 v4_1 v5_0 v5_1)) :=
 viaSeqS (fun k => impl_mutated.Z18 N v5_2 v1 v6 v7 v2_0 v2_1 v2_2 v4_0 v4_1 v5_0 v5_1 k (fun v5_2 v1 v6 v2_0 v2_1 v2_2 v4_0 v4_1 v5_0 v5_1 => K (.exit 2) (f71s3 v5_2 v1 v6 v2_0 v2_1 v2_2 v4_0 v4_1 v5_0 v5_1))) (by kernel_rfl) (f71t18 N (K := seqK (fun σ => f71i N (f71c 12875) f71p19 σ (joinK (some f71l4) K)) (joinK (some f71l4) K)) ..) (fx11 fun v5_2 v1 v6 v7 v2_0 v2_1 v2_2 v4_0 v4_1 v5_0 v5_1 => f71t19 N v5_2 v1 v6 v7 v2_0 v2_1 v2_2 v4_0 v4_1 v5_0 v5_1 K) (by kernel_rfl)
noncomputable def f71p16 : Plan := .mk none (some f71l4) f71p17 .n
noncomputable abbrev f71w16 {ρ : Type} (N M : Nat) (σ : St) (K : KT ρ) : Option ρ := loopC (fun σ K => f71i N (f71c 4683) f71p17 σ K) f71l4 M σ K
theorem f71t16L {ρ : Type} (N : Nat) (K : KT ρ) : ∀ (M : Nat) (v5_2 : LI) (v1 v6 v7 v2_0 v2_1 : Int) (v2_2 : LI) (v4_0 v4_1 v5_0 v5_1 : Int), f71w16 N M (f71s4 v5_2 v1 v6 v7 v2_0 v2_1 v2_2 v4_0 v4_1 v5_0 v5_1) K =
  impl_mutated.Z16L N (fun v5_2 v1 v6 v2_0 v2_1 v2_2 v4_0 v4_1 v5_0 v5_1 => K (.exit 2) (f71s3 v5_2 v1 v6 v2_0 v2_1 v2_2 v4_0 v4_1 v5_0 v5_1)) M v5_2 v1 v6 v7 v2_0 v2_1 v2_2 v4_0 v4_1 v5_0 v5_1
  | 0, _, _, _, _, _, _, _, _, _, _, _ => rfl
  | M + 1, v5_2, v1, v6, v7, v2_0, v2_1, v2_2, v4_0, v4_1, v5_0, v5_1 => viaRoundS (fun k => impl_mutated.Z17 N v5_2 v1 v6 v7 v2_0 v2_1 v2_2 v4_0 v4_1 v5_0 v5_1 k (fun v5_2 v1 v6 v2_0 v2_1 v2_2 v4_0 v4_1 v5_0 v5_1 => K (.exit 2) (f71s3 v5_2 v1 v6 v2_0 v2_1 v2_2 v4_0 v4_1 v5_0 v5_1))) (f71t17 N (K := seqK (fun σ => f71w16 N M σ K) K) ..) (fx11 fun v5_2 v1 v6 v7 v2_0 v2_1 v2_2 v4_0 v4_1 v5_0 v5_1 => f71t16L N K M v5_2 v1 v6 v7 v2_0 v2_1 v2_2 v4_0 v4_1 v5_0 v5_1) (by kernel_rfl)
theorem f71t16 N v5_2 v1 v6 v7 v2_0 v2_1 v2_2 v4_0 v4_1 v5_0 v5_1 (K : KT ρ) : f71i N (f71c 2635) f71p16 (f71s4 v5_2 v1 v6 v7 v2_0 v2_1 v2_2 v4_0 v4_1 v5_0 v5_1) (joinK (some f71l3) K) =
  impl_mutated.Z16 N v5_2 v1 v6 v7 v2_0 v2_1 v2_2 v4_0 v4_1 v5_0 v5_1 (fun v5_2 v1 v6 v2_0 v2_1 v2_2 v4_0 v4_1 v5_0 v5_1 => K (.exit 2) (f71s3 v5_2 v1 v6 v2_0 v2_1 v2_2 v4_0 v4_1 v5_0 v5_1)) :=
 viaLoopS (by kernel_rfl) (f71t16L N (joinK (some f71l3) K) N v5_2 v1 v6 v7 v2_0 v2_1 v2_2 v4_0 v4_1 v5_0 v5_1) (by kernel_rfl)
noncomputable def f71p15 : Plan := .mk (some f71l3) none f71p16 .n
theorem f71t15 N v5_2 v1 v6 v7 v2_0 v2_1 v2_2 v4_0 v4_1 v5_0 v5_1 (K : KT ρ) : f71i N (f71c 1611) f71p15 (f71s4 v5_2 v1 v6 v7 v2_0 v2_1 v2_2 v4_0 v4_1 v5_0 v5_1) (joinK (some f71l3) K) =
  impl_mutated.Z15 N v5_2 v1 v6 v7 v2_0 v2_1 v2_2 v4_0 v4_1 v5_0 v5_1 (fun v5_2 v1 v6 v2_0 v2_1 v2_2 v4_0 v4_1 v5_0 v5_1 => K .nrm (f71s3 v5_2 v1 v6 v2_0 v2_1 v2_2 v4_0 v4_1 v5_0 v5_1)) :=
 viaBlockS (by kernel_rfl) (f71t16 N (K := blockK 2 (joinK (some f71l3) K)) ..) (by kernel_rfl)
noncomputable def f71p13 : Plan := .mk (some f71l4) none .n f71p15
theorem f71t13 N v5_2 v1 v6 v2_0 v2_1 v2_2 v4_0 v4_1 v5_0 v5_1 (K : KT ρ) : f71i N (f71c 587) f71p13 (f71s3 v5_2 v1 v6 v2_0 v2_1 v2_2 v4_0 v4_1 v5_0 v5_1) (joinK (some f71l3) K) =
  impl_mutated.Z13 N v5_2 v1 v6 v2_0 v2_1 v2_2 v4_0 v4_1 v5_0 v5_1 (fun v5_2 v1 v6 v2_0 v2_1 v2_2 v4_0 v4_1 v5_0 v5_1 => K .nrm (f71s3 v5_2 v1 v6 v2_0 v2_1 v2_2 v4_0 v4_1 v5_0 v5_1)) :=
 viaSeqS (fun k => impl_mutated.Z14 N v5_2 v1 v6 v2_0 v2_1 v2_2 v4_0 v4_1 v5_0 v5_1 k) (by kernel_rfl) (f71t14 N (K := seqK (fun σ => f71i N (f71c 1611) f71p15 σ (joinK (some f71l3) K)) (joinK (some f71l3) K)) ..) (fx11 fun v5_2 v1 v6 v7 v2_0 v2_1 v2_2 v4_0 v4_1 v5_0 v5_1 => f71t15 N v5_2 v1 v6 v7 v2_0 v2_1 v2_2 v4_0 v4_1 v5_0 v5_1 K) (by kernel_rfl)
noncomputable def f71p12 : Plan := .mk (some f71l3) none f71p13 .n
theorem f71t12 N v5_2 v1 v6 v2_0 v2_1 v2_2 v4_0 v4_1 v5_0 v5_1 (K : KT ρ) : f71i N (f71c 331) f71p12 (f71s3 v5_2 v1 v6 v2_0 v2_1 v2_2 v4_0 v4_1 v5_0 v5_1) (joinK (some f71l3) K) =
  impl_mutated.Z12 N v5_2 v1 v6 v2_0 v2_1 v2_2 v4_0 v4_1 v5_0 v5_1 (fun v5_2 v1 v6 v2_0 v2_1 v2_2 v4_0 v4_1 v5_0 v5_1 => K .nrm (f71s3 v5_2 v1 v6 v2_0 v2_1 v2_2 v4_0 v4_1 v5_0 v5_1)) :=
 viaBlockS (by kernel_rfl) (f71t13 N (K := blockK 1 (joinK (some f71l3) K)) ..) (by kernel_rfl)
theorem f71t30 N v5_2 v1 v6 v2_0 v2_1 v2_2 v4_0 v4_1 v5_0 v5_1 (K : KT ρ) : f71i N (f71c 459) .n (f71s3 v5_2 v1 v6 v2_0 v2_1 v2_2 v4_0 v4_1 v5_0 v5_1) (joinK (some f71l3) K) =
  impl_mutated.Z30 N v5_2 v1 v6 v2_0 v2_1 v2_2 v4_0 v4_1 v5_0 v5_1 (fun v5_2 v1 v6 v2_0 v2_1 v2_2 v4_0 v4_1 v5_0 v5_1 => K .nrm (f71s3 v5_2 v1 v6 v2_0 v2_1 v2_2 v4_0 v4_1 v5_0 v5_1)) := by kernel_rfl
noncomputable def f71p11 : Plan := .mk (some f71l3) none f71p12 .n
theorem f71t11 N v5_2 v1 v6 v2_0 v2_1 v2_2 v4_0 v4_1 v5_0 v5_1 (K : KT ρ) : f71i N (f71c 203) f71p11 (f71s3 v5_2 v1 v6 v2_0 v2_1 v2_2 v4_0 v4_1 v5_0 v5_1) (joinK (some f71l3) K) =
  impl_mutated.Z11 N v5_2 v1 v6 v2_0 v2_1 v2_2 v4_0 v4_1 v5_0 v5_1 (fun v5_2 v1 v6 v2_0 v2_1 v2_2 v4_0 v4_1 v5_0 v5_1 => K .nrm (f71s3 v5_2 v1 v6 v2_0 v2_1 v2_2 v4_0 v4_1 v5_0 v5_1)) :=
 viaSeqS (fun k => impl_mutated.Z12 N v5_2 v1 v6 v2_0 v2_1 v2_2 v4_0 v4_1 v5_0 v5_1 k) (by kernel_rfl) (f71t12 N (K := seqK (fun σ => f71i N (f71c 459) .n σ (joinK (some f71l3) K)) (joinK (some f71l3) K)) ..) (fx10 fun v5_2 v1 v6 v2_0 v2_1 v2_2 v4_0 v4_1 v5_0 v5_1 => f71t30 N v5_2 v1 v6 v2_0 v2_1 v2_2 v4_0 v4_1 v5_0 v5_1 K) (by kernel_rfl)
noncomputable def f71p9 : Plan := .mk (some f71l3) none .n f71p11
theorem f71t9 N v5_2 v1 v6 v2_0 v2_1 v2_2 v4_0 v4_1 v5_0 v5_1 (K : KT ρ) : f71i N (f71c 75) f71p9 (f71s3 v5_2 v1 v6 v2_0 v2_1 v2_2 v4_0 v4_1 v5_0 v5_1) (joinK (some f71l3) K) =
  impl_mutated.Z9 N v5_2 v1 v6 v2_0 v2_1 v2_2 v4_0 v4_1 v5_0 v5_1 (fun v5_2 v1 v6 v2_0 v2_1 v2_2 v4_0 v4_1 v5_0 v5_1 => K .nrm (f71s3 v5_2 v1 v6 v2_0 v2_1 v2_2 v4_0 v4_1 v5_0 v5_1)) (fun v5_2 v4_0 v4_1 v5_0 v5_1 => K (.exit 0) (f71s8 v5_2 v4_0 v4_1 v5_0 v5_1)) :=
 viaSeqS (fun k => impl_mutated.Z10 N v5_2 v1 v6 v2_0 v2_1 v2_2 v4_0 v4_1 v5_0 v5_1 k (fun v5_2 v4_0 v4_1 v5_0 v5_1 => K (.exit 0) (f71s8 v5_2 v4_0 v4_1 v5_0 v5_1))) (by kernel_rfl) (f71t10 N (K := seqK (fun σ => f71i N (f71c 203) f71p11 σ (joinK (some f71l3) K)) (joinK (some f71l3) K)) ..) (fx10 fun v5_2 v1 v6 v2_0 v2_1 v2_2 v4_0 v4_1 v5_0 v5_1 => f71t11 N v5_2 v1 v6 v2_0 v2_1 v2_2 v4_0 v4_1 v5_0 v5_1 K) (by kernel_rfl)
noncomputable def f71p8 : Plan := .mk none (some f71l3) f71p9 .n
noncomputable abbrev f71w8 {ρ : Type} (N M : Nat) (σ : St) (K : KT ρ) : Option ρ := loopC (fun σ K => f71i N (f71c 75) f71p9 σ K) f71l3 M σ K
theorem f71t8L {ρ : Type} (N : Nat) (K : KT ρ) : ∀ (M : Nat) (v5_2 : LI) (v1 v6 v2_0 v2_1 : Int) (v2_2 : LI) (v4_0 v4_1 v5_0 v5_1 : Int), f71w8 N M (f71s3 v5_2 v1 v6 v2_0 v2_1 v2_2 v4_0 v4_1 v5_0 v5_1) K =
  impl_mutated.Z8L N (fun v5_2 v4_0 v4_1 v5_0 v5_1 => K (.exit 0) (f71s8 v5_2 v4_0 v4_1 v5_0 v5_1)) M v5_2 v1 v6 v2_0 v2_1 v2_2 v4_0 v4_1 v5_0 v5_1
  | 0, _, _, _, _, _, _, _, _, _, _ => rfl
  | M + 1, v5_2, v1, v6, v2_0, v2_1, v2_2, v4_0, v4_1, v5_0, v5_1 => viaRoundS (fun k => impl_mutated.Z9 N v5_2 v1 v6 v2_0 v2_1 v2_2 v4_0 v4_1 v5_0 v5_1 k (fun v5_2 v4_0 v4_1 v5_0 v5_1 => K (.exit 0) (f71s8 v5_2 v4_0 v4_1 v5_0 v5_1))) (f71t9 N (K := seqK (fun σ => f71w8 N M σ K) K) ..) (fx10 fun v5_2 v1 v6 v2_0 v2_1 v2_2 v4_0 v4_1 v5_0 v5_1 => f71t8L N K M v5_2 v1 v6 v2_0 v2_1 v2_2 v4_0 v4_1 v5_0 v5_1) (by kernel_rfl)
theorem f71t8 N v5_2 v1 v6 v2_0 v2_1 v2_2 v4_0 v4_1 v5_0 v5_1 (K : KT ρ) : f71i N (f71c 43) f71p8 (f71s3 v5_2 v1 v6 v2_0 v2_1 v2_2 v4_0 v4_1 v5_0 v5_1) (joinK (some f71l8) K) =
  impl_mutated.Z8 N v5_2 v1 v6 v2_0 v2_1 v2_2 v4_0 v4_1 v5_0 v5_1 (fun v5_2 v4_0 v4_1 v5_0 v5_1 => K (.exit 0) (f71s8 v5_2 v4_0 v4_1 v5_0 v5_1)) :=
 viaLoopS (by kernel_rfl) (f71t8L N (joinK (some f71l8) K) N v5_2 v1 v6 v2_0 v2_1 v2_2 v4_0 v4_1 v5_0 v5_1) (by kernel_rfl)
noncomputable def f71p7 : Plan := .mk (some f71l8) none f71p8 .n
theorem f71t7 N v5_2 v1 v6 v2_0 v2_1 v2_2 v4_0 v4_1 v5_0 v5_1 (K : KT ρ) : f71i N (f71c 27) f71p7 (f71s3 v5_2 v1 v6 v2_0 v2_1 v2_2 v4_0 v4_1 v5_0 v5_1) (joinK (some f71l8) K) =
  impl_mutated.Z7 N v5_2 v1 v6 v2_0 v2_1 v2_2 v4_0 v4_1 v5_0 v5_1 (fun v5_2 v4_0 v4_1 v5_0 v5_1 => K .nrm (f71s8 v5_2 v4_0 v4_1 v5_0 v5_1)) :=
 viaBlockS (by kernel_rfl) (f71t8 N (K := blockK 0 (joinK (some f71l8) K)) ..) (by kernel_rfl)
noncomputable def f71p5 : Plan := .mk (some f71l3) none .n f71p7
theorem f71t5 N v5_2 v1 v2_0 v2_1 v2_2 v4_0 v4_1 v5_0 v5_1 (K : KT ρ) : f71i N (f71c 11) f71p5 (f71s2 v5_2 v1 v2_0 v2_1 v2_2 v4_0 v4_1 v5_0 v5_1) (joinK (some f71l8) K) =
  impl_mutated.Z5 N v5_2 v1 v2_0 v2_1 v2_2 v4_0 v4_1 v5_0 v5_1 (fun v5_2 v4_0 v4_1 v5_0 v5_1 => K .nrm (f71s8 v5_2 v4_0 v4_1 v5_0 v5_1)) :=
 viaSeqS (fun k => impl_mutated.Z6 N v5_2 v1 v2_0 v2_1 v2_2 v4_0 v4_1 v5_0 v5_1 k) (by kernel_rfl) (f71t6 N (K := seqK (fun σ => f71i N (f71c 27) f71p7 σ (joinK (some f71l8) K)) (joinK (some f71l8) K)) ..) (fx10 fun v5_2 v1 v6 v2_0 v2_1 v2_2 v4_0 v4_1 v5_0 v5_1 => f71t7 N v5_2 v1 v6 v2_0 v2_1 v2_2 v4_0 v4_1 v5_0 v5_1 K) (by kernel_rfl)
theorem f71t31 N v5_2 v4_0 v4_1 v5_0 v5_1 (K : KT ρ) : f71i N (f71c 15) .n (f71s8 v5_2 v4_0 v4_1 v5_0 v5_1) (joinK (some f71lE) K) =
  impl_mutated.Z31 N v5_2 v4_0 v4_1 v5_0 v5_1 (fun v4_2 v4_0 v4_1 => K .ret (f71s9 v4_2 v4_0 v4_1)) := by kernel_rfl
noncomputable def f71p4 : Plan := .mk (some f71l8) none f71p5 .n
theorem f71t4 N v5_2 v1 v2_0 v2_1 v2_2 v4_0 v4_1 v5_0 v5_1 (K : KT ρ) : f71i N (f71c 7) f71p4 (f71s2 v5_2 v1 v2_0 v2_1 v2_2 v4_0 v4_1 v5_0 v5_1) (joinK (some f71lE) K) =
  impl_mutated.Z4 N v5_2 v1 v2_0 v2_1 v2_2 v4_0 v4_1 v5_0 v5_1 (fun v4_2 v4_0 v4_1 => K .ret (f71s9 v4_2 v4_0 v4_1)) :=
 viaSeqS (fun k => impl_mutated.Z5 N v5_2 v1 v2_0 v2_1 v2_2 v4_0 v4_1 v5_0 v5_1 k) (by kernel_rfl) (f71t5 N (K := seqK (fun σ => f71i N (f71c 15) .n σ (joinK (some f71lE) K)) (joinK (some f71lE) K)) ..) (fx5 fun v5_2 v4_0 v4_1 v5_0 v5_1 => f71t31 N v5_2 v4_0 v4_1 v5_0 v5_1 K) (by kernel_rfl)
noncomputable def f71p2 : Plan := .mk (some f71l2) none .n f71p4
theorem f71t2 N v1 v2_0 v2_1 v2_2 v4_0 v4_1 (K : KT ρ) : f71i N (f71c 3) f71p2 (f71s1 v1 v2_0 v2_1 v2_2 v4_0 v4_1) (joinK (some f71lE) K) =
  impl_mutated.Z2 N v1 v2_0 v2_1 v2_2 v4_0 v4_1 (fun v4_2 v4_0 v4_1 => K .ret (f71s9 v4_2 v4_0 v4_1)) :=
 viaSeqS (fun k => impl_mutated.Z3 N v1 v2_0 v2_1 v2_2 v4_0 v4_1 k) (by kernel_rfl) (f71t3 N (K := seqK (fun σ => f71i N (f71c 7) f71p4 σ (joinK (some f71lE) K)) (joinK (some f71lE) K)) ..) (fx9 fun v5_2 v1 v2_0 v2_1 v2_2 v4_0 v4_1 v5_0 v5_1 => f71t4 N v5_2 v1 v2_0 v2_1 v2_2 v4_0 v4_1 v5_0 v5_1 K) (by kernel_rfl)
noncomputable def f71p0 : Plan := .mk (some f71l1) none .n f71p2
theorem f71t0 N v0 v1 (K : KT ρ) : f71i N (f71c 1) f71p0 (f71s0 v0 v1) (joinK (some f71lE) K) =
  impl_mutated.Z0 N v0 v1 (fun v4_2 v4_0 v4_1 => K .ret (f71s9 v4_2 v4_0 v4_1)) :=
 viaSeqS (fun k => impl_mutated.Z1 N v0 v1 k) (by kernel_rfl) (f71t1 N (K := seqK (fun σ => f71i N (f71c 3) f71p2 σ (joinK (some f71lE) K)) (joinK (some f71lE) K)) ..) (fx6 fun v1 v2_0 v2_1 v2_2 v4_0 v4_1 => f71t2 N v1 v2_0 v2_1 v2_2 v4_0 v4_1 K) (by kernel_rfl)
theorem f71m (N : Nat) (v0 : MT) (v1 : Int) : f71i N (f71c 1) f71p0 (f71s0 v0 v1) (joinK (some f71lE) (finK tab f71sig Try.f71.results.toList)) = impl_mutated.Z0 N v0 v1 (fun v4_2 v4_0 v4_1 => some ((), ((v4_0, (v4_1, v4_2)), ()))) :=
  (f71t0 N v0 v1 (finK tab f71sig Try.f71.results.toList)).trans (by kernel_rfl)
theorem f71ok (h : impl_mutated.Spec) : EntryOk Try.prog 71 e71 :=
  entry_of_code (sig := f71sig) (c := (f71c 1)) (pl := f71p0) (je := (some f71lE)) (B := f71B) Try.func71 (by kernel_rfl) (by kernel_rfl) (by kernel_rfl) tabOk f71GOk (by kernel_rfl) (by kernel_rfl) (by kernel_rfl) (by kernel_rfl) fun X hb hp => by
    obtain ⟨v0, v1, _⟩ := X
    obtain ⟨N, h⟩ := h v0 v1 hb.1 hp
    exact ⟨N, (f71m N v0 v1).trans (h N (Nat.le_refl N))⟩
theorem e71ok : EntryOk Try.prog 71 e71 := f71ok impl_mutated.ok
end Go.Fw
namespace Go.Fw
variable {ρ : Type}
open Go.Proofs
noncomputable def f27sig : Sig := ⟨[⟨.pair (.int .i64) (.pair (.int .i64) (.sl 3 (.int .i64))), true, false⟩, ⟨.int .i64, false, false⟩], [⟨.pair (.int .i64) (.pair (.int .i64) (.sl 3 (.int .i64))), true, false⟩, ⟨.bool, false, false⟩]⟩
noncomputable def e27 : Entry := ⟨f27sig, none, fun X => ((), ((impl_MutateMatrix.g X.1 X.2.1).1, ((impl_MutateMatrix.g X.1 X.2.1).2, ())))⟩
noncomputable def f27G : Gm := addG (addG (addG emptyG 31 e31) 70 e70) 71 e71
theorem f27GOk : GOk Try.prog f27G := (((GOk.nil).add e31ok (by kernel_rfl)).add e70ok (by kernel_rfl)).add e71ok (by kernel_rfl)
noncomputable def f27lE : Clean := ⟨[], [], [], [], []⟩
noncomputable def f27s0 (v0 : MT) (v1 : Int) : St := initSt f27sig.ps (v0, (v1, ()))
noncomputable def f27s1 (v4_2 : LI) (v5 : Bool) (v4_0 v4_1 : Int) : St := stOf [(4, xb 4), (5, xB v5)] [(4, (30, [yi v4_0, yi v4_1, .own 20000258]))] [(20000258, (⟨3, .int .i64, v4_2, true, false⟩ : Row))]
noncomputable def f27l1 : Clean := ⟨[4, 5], [4], [⟨⟨true, 4, 2⟩, 30000000, 3, .int .i64, true⟩], [], [(⟨true, 4, 2⟩, 20000258)]⟩
noncomputable def f27B : Nat → Option Clean := lookL [(1000000, f27l1)]
noncomputable abbrev f27i {ρ : Type} (N : Nat) (c : Code) (p : Plan) (σ : St) (K : KT ρ) : Option ρ := iCode f27G tab f27B N c p σ K
noncomputable def f27c (n : Nat) : Code := codeN 99 (bodyOf Try.f27) n
theorem f27t0 N v0 v1 (K : KT ρ) : f27i N (f27c 1) .n (f27s0 v0 v1) (joinK (some f27lE) K) =
  impl_MutateMatrix.Z0 N v0 v1 (fun v4_2 v5 v4_0 v4_1 => K .ret (f27s1 v4_2 v5 v4_0 v4_1)) := by kernel_rfl
theorem f27m (N : Nat) (v0 : MT) (v1 : Int) : f27i N (f27c 1) .n (f27s0 v0 v1) (joinK (some f27lE) (finK tab f27sig Try.f27.results.toList)) = impl_MutateMatrix.Z0 N v0 v1 (fun v4_2 v5 v4_0 v4_1 => some ((), ((v4_0, (v4_1, v4_2)), (v5, ())))) :=
  (f27t0 N v0 v1 (finK tab f27sig Try.f27.results.toList)).trans (by kernel_rfl)
theorem f27ok (h : impl_MutateMatrix.Spec) : EntryOk Try.prog 27 e27 :=
  entry_of_code (sig := f27sig) (c := (f27c 1)) (pl := .n) (je := (some f27lE)) (B := f27B) Try.func27 (by kernel_rfl) (by kernel_rfl) (by kernel_rfl) tabOk f27GOk (by kernel_rfl) (by kernel_rfl) (by kernel_rfl) (by kernel_rfl) fun X hb hp => by
    obtain ⟨v0, v1, _⟩ := X
    obtain ⟨N, h⟩ := h v0 v1 hb.1
    exact ⟨N, (f27m N v0 v1).trans (h N (Nat.le_refl N))⟩
theorem e27ok : EntryOk Try.prog 27 e27 := f27ok impl_MutateMatrix.ok
end Go.Fw
namespace Go.Fw
variable {ρ : Type}
open Go.Proofs
noncomputable def f63rf : Rf := some (78, .pair (.sl 22 (.sl 3 (.int .i64))) (.bool))
noncomputable def f63ps : List PT := [⟨.pair (.int .i64) (.pair (.int .i64) (.sl 3 (.int .i64))), true, false⟩, ⟨.sl 3 (.int .i64), false, false⟩]
noncomputable def f63rs : List PT := []
noncomputable def e63S (m : Nat) : EntryM := ⟨f63rf, f63ps, f63rs, (some (below (fun X => impl_greener_from.mu X.1 X.2.1 X.2.2.1) (fun X => impl_greener_from.P X.1 X.2.1 X.2.2.1) m)), fun X => ((impl_greener_from.g X.1 X.2.1 X.2.2.1), ())⟩
noncomputable def e63 : EntryM := ⟨f63rf, f63ps, f63rs, (some fun X => impl_greener_from.P X.1 X.2.1 X.2.2.1), fun X => ((impl_greener_from.g X.1 X.2.1 X.2.2.1), ())⟩
noncomputable def f63G (m : Nat) : Gm := addG (addM (addG emptyG 27 e27) 63 (e63S m)) 103 e103
theorem f63GOk (m : Nat) (hself : EntryMOk Try.prog 63 (e63S m)) : GOk Try.prog (f63G m) := (((GOk.nil).add e27ok (by kernel_rfl)).addM hself (by kernel_rfl)).add e103ok (by kernel_rfl)
noncomputable def f63lE : Clean := ⟨[], [], [], [], []⟩
noncomputable def f63s0 (v0 : LL × Bool) (v1 : MT) (v2 : LI) : St := initStM f63rf f63ps (v0, (v1, (v2, ())))
noncomputable def f63s1 (io100000_0 : LL) (v2 : LI) (io100000_1 : Bool) (v4_0 v4_1 : Int) (v4_2 : LI) : St := stOf [(0, xb 100000), (2, .c (.sn 3 tI v2 none)), (4, xb 4), (100000, xb 100000)] [(100000, (78, [.own 26400000, .bool io100000_1])), (4, (30, [yi v4_0, yi v4_1, .sn 3 tI v4_2 none]))] [(26400000, (⟨22, .sl 3 tI, io100000_0, true, false⟩ : Row))]
noncomputable def f63l1 : Clean := ⟨[0, 2, 4, 100000], [100000, 4], [], [], [(⟨true, 100000, 0⟩, 26400000)]⟩
noncomputable def f63s2 (io100000_0 : LL) (v2 : LI) (v6 io100000_1 : Bool) (v4_0 v4_1 : Int) (v4_2 : LI) : St := stOf [(0, xb 100000), (2, .c (.sn 3 tI v2 none)), (4, xb 4), (6, xB v6), (100000, xb 100000)] [(100000, (78, [.own 26400000, .bool io100000_1])), (4, (30, [yi v4_0, yi v4_1, .sn 3 tI v4_2 none]))] [(26400000, (⟨22, .sl 3 tI, io100000_0, true, false⟩ : Row))]
noncomputable def f63l2 : Clean := ⟨[0, 2, 4, 6, 100000], [100000, 4], [], [], [(⟨true, 100000, 0⟩, 26400000)]⟩
noncomputable def f63s3 (io100000_0 : LL) (v2 : LI) (v6 : Bool) (v7 : Int) (io100000_1 : Bool) (v4_0 v4_1 : Int) (v4_2 : LI) : St := stOf [(0, xb 100000), (2, .c (.sn 3 tI v2 none)), (4, xb 4), (6, xB v6), (7, xi v7), (100000, xb 100000)] [(100000, (78, [.own 26400000, .bool io100000_1])), (4, (30, [yi v4_0, yi v4_1, .sn 3 tI v4_2 none]))] [(26400000, (⟨22, .sl 3 tI, io100000_0, true, false⟩ : Row))]
noncomputable def f63l3 : Clean := ⟨[0, 2, 4, 6, 7, 100000], [100000, 4], [], [], [(⟨true, 100000, 0⟩, 26400000)]⟩
noncomputable def f63s4 (io100000_0 : LL) (v2 : LI) (v6 io100000_1 : Bool) : St := stOf [(0, xb 100000), (2, .c (.sn 3 tI v2 none)), (6, xB v6), (100000, xb 100000)] [(100000, (78, [.own 26400000, .bool io100000_1]))] [(26400000, (⟨22, .sl 3 tI, io100000_0, true, false⟩ : Row))]
noncomputable def f63l4 : Clean := ⟨[0, 2, 6, 100000], [100000], [], [], [(⟨true, 100000, 0⟩, 26400000)]⟩
noncomputable def f63s5 (io100000_0 : LL) (io100000_1 : Bool) : St := stOf [(100000, xb 100000)] [(100000, (78, [.own 26400000, .bool io100000_1]))] [(26400000, (⟨22, .sl 3 tI, io100000_0, true, false⟩ : Row))]
noncomputable def f63l5 : Clean := ⟨[100000], [100000], [], [], [(⟨true, 100000, 0⟩, 26400000)]⟩
noncomputable def f63B : Nat → Option Clean := lookL [(0, f63l4), (1000000, f63l5)]
noncomputable abbrev f63i {ρ : Type} (N m : Nat) (c : Code) (p : Plan) (σ : St) (K : KT ρ) : Option ρ := iCode (f63G m) tab f63B N c p σ K
noncomputable def f63c (n : Nat) : Code := codeN 99 (bodyOf Try.f63) n
theorem f63t1 N m v0 v1 v2 (K : KT ρ) : f63i N m (f63c 2) .n (f63s0 v0 v1 v2) (joinK (some f63l1) K) =
  impl_greener_from.Z1 N m v0 v1 v2 (fun io100000_0 v2 io100000_1 v4_0 v4_1 v4_2 => K .nrm (f63s1 io100000_0 v2 io100000_1 v4_0 v4_1 v4_2)) := by kernel_rfl
theorem f63t3 N m io100000_0 v2 io100000_1 v4_0 v4_1 v4_2 (K : KT ρ) : f63i N m (f63c 5) .n (f63s1 io100000_0 v2 io100000_1 v4_0 v4_1 v4_2) (joinK (some f63l2) K) =
  impl_greener_from.Z3 N m io100000_0 v2 io100000_1 v4_0 v4_1 v4_2 (fun io100000_0 v2 v6 io100000_1 v4_0 v4_1 v4_2 => K .nrm (f63s2 io100000_0 v2 v6 io100000_1 v4_0 v4_1 v4_2)) := by kernel_rfl
theorem f63t6 N m io100000_0 v2 v6 io100000_1 v4_0 v4_1 v4_2 (K : KT ρ) : f63i N m (f63c 19) .n (f63s2 io100000_0 v2 v6 io100000_1 v4_0 v4_1 v4_2) (joinK (some f63l3) K) =
  impl_greener_from.Z6 N m io100000_0 v2 v6 io100000_1 v4_0 v4_1 v4_2 (fun io100000_0 v2 v6 v7 io100000_1 v4_0 v4_1 v4_2 => K .nrm (f63s3 io100000_0 v2 v6 v7 io100000_1 v4_0 v4_1 v4_2)) := by kernel_rfl
theorem f63t9 N m io100000_0 v2 v6 v7 io100000_1 v4_0 v4_1 v4_2 (K : KT ρ) : f63i N m (f63c 75) .n (f63s3 io100000_0 v2 v6 v7 io100000_1 v4_0 v4_1 v4_2) (joinK (some f63l3) K) =
  impl_greener_from.Z9 N m io100000_0 v2 v6 v7 io100000_1 v4_0 v4_1 v4_2 (fun io100000_0 v2 v6 v7 io100000_1 v4_0 v4_1 v4_2 => K .nrm (f63s3 io100000_0 v2 v6 v7 io100000_1 v4_0 v4_1 v4_2)) (fun io100000_0 v2 v6 io100000_1 => K (.exit 0) (f63s4 io100000_0 v2 v6 io100000_1)) (fun io100000_0 io100000_1 => K .ret (f63s5 io100000_0 io100000_1)) := by kernel_rfl
noncomputable def f63p8 : Plan := .mk none (some f63l3) .n .n
noncomputable abbrev f63w8 {ρ : Type} (N m M : Nat) (σ : St) (K : KT ρ) : Option ρ := loopC (fun σ K => f63i N m (f63c 75) .n σ K) f63l3 M σ K
theorem f63t8L {ρ : Type} (N m : Nat) (K : KT ρ) : ∀ (M : Nat) (io100000_0 : LL) (v2 : LI) (v6 : Bool) (v7 : Int) (io100000_1 : Bool) (v4_0 v4_1 : Int) (v4_2 : LI), f63w8 N m M (f63s3 io100000_0 v2 v6 v7 io100000_1 v4_0 v4_1 v4_2) K =
  impl_greener_from.Z8L N m (fun io100000_0 v2 v6 io100000_1 => K (.exit 0) (f63s4 io100000_0 v2 v6 io100000_1)) (fun io100000_0 io100000_1 => K .ret (f63s5 io100000_0 io100000_1)) M io100000_0 v2 v6 v7 io100000_1 v4_0 v4_1 v4_2
  | 0, _, _, _, _, _, _, _, _ => rfl
  | M + 1, io100000_0, v2, v6, v7, io100000_1, v4_0, v4_1, v4_2 => viaRoundS (fun k => impl_greener_from.Z9 N m io100000_0 v2 v6 v7 io100000_1 v4_0 v4_1 v4_2 k (fun io100000_0 v2 v6 io100000_1 => K (.exit 0) (f63s4 io100000_0 v2 v6 io100000_1)) (fun io100000_0 io100000_1 => K .ret (f63s5 io100000_0 io100000_1))) (f63t9 N m (K := seqK (fun σ => f63w8 N m M σ K) K) ..) (fx8 fun io100000_0 v2 v6 v7 io100000_1 v4_0 v4_1 v4_2 => f63t8L N m K M io100000_0 v2 v6 v7 io100000_1 v4_0 v4_1 v4_2) (by kernel_rfl)
theorem f63t8 N m io100000_0 v2 v6 v7 io100000_1 v4_0 v4_1 v4_2 (K : KT ρ) : f63i N m (f63c 43) f63p8 (f63s3 io100000_0 v2 v6 v7 io100000_1 v4_0 v4_1 v4_2) (joinK (some f63l4) K) =
  impl_greener_from.Z8 N m io100000_0 v2 v6 v7 io100000_1 v4_0 v4_1 v4_2 (fun io100000_0 v2 v6 io100000_1 => K (.exit 0) (f63s4 io100000_0 v2 v6 io100000_1)) (fun io100000_0 io100000_1 => K .ret (f63s5 io100000_0 io100000_1)) :=
 viaLoopS (by kernel_rfl) (f63t8L N m (joinK (some f63l4) K) N io100000_0 v2 v6 v7 io100000_1 v4_0 v4_1 v4_2) (by kernel_rfl)
noncomputable def f63p7 : Plan := .mk (some f63l4) none f63p8 .n
theorem f63t7 N m io100000_0 v2 v6 v7 io100000_1 v4_0 v4_1 v4_2 (K : KT ρ) : f63i N m (f63c 27) f63p7 (f63s3 io100000_0 v2 v6 v7 io100000_1 v4_0 v4_1 v4_2) (joinK (some f63l4) K) =
  impl_greener_from.Z7 N m io100000_0 v2 v6 v7 io100000_1 v4_0 v4_1 v4_2 (fun io100000_0 v2 v6 io100000_1 => K .nrm (f63s4 io100000_0 v2 v6 io100000_1)) (fun io100000_0 io100000_1 => K .ret (f63s5 io100000_0 io100000_1)) :=
 viaBlockS (by kernel_rfl) (f63t8 N m (K := blockK 0 (joinK (some f63l4) K)) ..) (by kernel_rfl)
noncomputable def f63p5 : Plan := .mk (some f63l3) none .n f63p7
theorem f63t5 N m io100000_0 v2 v6 io100000_1 v4_0 v4_1 v4_2 (K : KT ρ) : f63i N m (f63c 11) f63p5 (f63s2 io100000_0 v2 v6 io100000_1 v4_0 v4_1 v4_2) (joinK (some f63l4) K) =
  impl_greener_from.Z5 N m io100000_0 v2 v6 io100000_1 v4_0 v4_1 v4_2 (fun io100000_0 v2 v6 io100000_1 => K .nrm (f63s4 io100000_0 v2 v6 io100000_1)) (fun io100000_0 io100000_1 => K .ret (f63s5 io100000_0 io100000_1)) :=
 viaSeqS (fun k => impl_greener_from.Z6 N m io100000_0 v2 v6 io100000_1 v4_0 v4_1 v4_2 k) (by kernel_rfl) (f63t6 N m (K := seqK (fun σ => f63i N m (f63c 27) f63p7 σ (joinK (some f63l4) K)) (joinK (some f63l4) K)) ..) (fx8 fun io100000_0 v2 v6 v7 io100000_1 v4_0 v4_1 v4_2 => f63t7 N m io100000_0 v2 v6 v7 io100000_1 v4_0 v4_1 v4_2 K) (by kernel_rfl)
theorem f63t10 N m io100000_0 v2 v6 io100000_1 (K : KT ρ) : f63i N m (f63c 15) .n (f63s4 io100000_0 v2 v6 io100000_1) (joinK (some f63l5) K) =
  impl_greener_from.Z10 N m io100000_0 v2 v6 io100000_1 (fun io100000_0 io100000_1 => K .nrm (f63s5 io100000_0 io100000_1)) := by kernel_rfl
noncomputable def f63p4 : Plan := .mk (some f63l4) none f63p5 .n
theorem f63t4 N m io100000_0 v2 v6 io100000_1 v4_0 v4_1 v4_2 (K : KT ρ) : f63i N m (f63c 7) f63p4 (f63s2 io100000_0 v2 v6 io100000_1 v4_0 v4_1 v4_2) (joinK (some f63l5) K) =
  impl_greener_from.Z4 N m io100000_0 v2 v6 io100000_1 v4_0 v4_1 v4_2 (fun io100000_0 io100000_1 => K .nrm (f63s5 io100000_0 io100000_1)) (fun io100000_0 io100000_1 => K .ret (f63s5 io100000_0 io100000_1)) :=
 viaSeqS (fun k => impl_greener_from.Z5 N m io100000_0 v2 v6 io100000_1 v4_0 v4_1 v4_2 k (fun io100000_0 io100000_1 => K .ret (f63s5 io100000_0 io100000_1))) (by kernel_rfl) (f63t5 N m (K := seqK (fun σ => f63i N m (f63c 15) .n σ (joinK (some f63l5) K)) (joinK (some f63l5) K)) ..) (fx4 fun io100000_0 v2 v6 io100000_1 => f63t10 N m io100000_0 v2 v6 io100000_1 K) (by kernel_rfl)
noncomputable def f63p2 : Plan := .mk (some f63l2) none .n f63p4
theorem f63t2 N m io100000_0 v2 io100000_1 v4_0 v4_1 v4_2 (K : KT ρ) : f63i N m (f63c 3) f63p2 (f63s1 io100000_0 v2 io100000_1 v4_0 v4_1 v4_2) (joinK (some f63l5) K) =
  impl_greener_from.Z2 N m io100000_0 v2 io100000_1 v4_0 v4_1 v4_2 (fun io100000_0 io100000_1 => K .nrm (f63s5 io100000_0 io100000_1)) (fun io100000_0 io100000_1 => K .ret (f63s5 io100000_0 io100000_1)) :=
 viaSeqS (fun k => impl_greener_from.Z3 N m io100000_0 v2 io100000_1 v4_0 v4_1 v4_2 k) (by kernel_rfl) (f63t3 N m (K := seqK (fun σ => f63i N m (f63c 7) f63p4 σ (joinK (some f63l5) K)) (joinK (some f63l5) K)) ..) (fx7 fun io100000_0 v2 v6 io100000_1 v4_0 v4_1 v4_2 => f63t4 N m io100000_0 v2 v6 io100000_1 v4_0 v4_1 v4_2 K) (by kernel_rfl)
noncomputable def f63p0 : Plan := .mk (some f63l1) none .n f63p2
theorem f63t0 N m v0 v1 v2 (K : KT ρ) : f63i N m (f63c 1) f63p0 (f63s0 v0 v1 v2) (joinK (some f63l5) K) =
  impl_greener_from.Z0 N m v0 v1 v2 (fun io100000_0 io100000_1 => K .nrm (f63s5 io100000_0 io100000_1)) (fun io100000_0 io100000_1 => K .ret (f63s5 io100000_0 io100000_1)) :=
 viaSeqS (fun k => impl_greener_from.Z1 N m v0 v1 v2 k) (by kernel_rfl) (f63t1 N m (K := seqK (fun σ => f63i N m (f63c 3) f63p2 σ (joinK (some f63l5) K)) (joinK (some f63l5) K)) ..) (fx6 fun io100000_0 v2 io100000_1 v4_0 v4_1 v4_2 => f63t2 N m io100000_0 v2 io100000_1 v4_0 v4_1 v4_2 K) (by kernel_rfl)
theorem f63m (N m : Nat) (v0 : LL × Bool) (v1 : MT) (v2 : LI) : f63i N m (f63c 1) f63p0 (f63s0 v0 v1 v2) (joinK (some f63l5) (finKM tab f63rf f63rs Try.f63.results.toList)) = impl_greener_from.Z0 N m v0 v1 v2 (fun io100000_0 io100000_1 => some ((io100000_0, io100000_1), ())) (fun io100000_0 io100000_1 => some ((io100000_0, io100000_1), ())) :=
  (f63t0 N m v0 v1 v2 (finKM tab f63rf f63rs Try.f63.results.toList)).trans (by kernel_rfl)
theorem f63ok (h : impl_greener_from.Spec) : EntryMOk Try.prog 63 e63 :=
  EntryMOk.rec (μ := fun X => impl_greener_from.mu X.1 X.2.1 X.2.2.1) (fun m hself => entryM_of_code (rf := f63rf) (ps := f63ps) (rs := f63rs) (c := (f63c 1)) (pl := f63p0) (je := (some f63l5)) (B := f63B) Try.func63 (by kernel_rfl) (by kernel_rfl) (by kernel_rfl) tabOk (f63GOk m hself) (by kernel_rfl) (by kernel_rfl) (by kernel_rfl) fun X hb1 hb2 hp => by
    obtain ⟨v0, v1, v2, _⟩ := X
    obtain ⟨N, h⟩ := h m v0 v1 v2 hb1 hb2.1 hb2.2.1 hp
    exact ⟨N, (f63m N m v0 v1 v2).trans (h N (Nat.le_refl N))⟩)
theorem e63ok : EntryMOk Try.prog 63 e63 := f63ok impl_greener_from.ok
end Go.Fw
namespace Go.Fw
variable {ρ : Type}
open Go.Proofs
noncomputable def f19sig : Sig := ⟨[⟨.pair (.int .i64) (.pair (.int .i64) (.sl 3 (.int .i64))), true, false⟩], [⟨.sl 22 (.sl 3 (.int .i64)), false, false⟩, ⟨.bool, false, false⟩]⟩
noncomputable def e19 : Entry := ⟨f19sig, none, fun X => ((), ((impl_GreenSequences.g X.1).1, ((impl_GreenSequences.g X.1).2, ())))⟩
noncomputable def f19G : Gm := addM (addG emptyG 62 e62) 63 e63
theorem f19GOk : GOk Try.prog f19G := ((GOk.nil).add e62ok (by kernel_rfl)).addM e63ok (by kernel_rfl)
noncomputable def f19lE : Clean := ⟨[], [], [], [], []⟩
noncomputable def f19s0 (v0 : MT) : St := initSt f19sig.ps (v0, ())
noncomputable def f19s1 (v2 : LL) (v3 : Bool) : St := stOf [(2, xo 1000128), (3, xB v3)] [] [(1000128, (⟨22, .sl 3 tI, v2, true, false⟩ : Row))]
noncomputable def f19l1 : Clean := ⟨[2, 3], [], [⟨⟨false, 2, 0⟩, 30000000, 22, .sl 3 (.int .i64), true⟩], [], [(⟨false, 2, 0⟩, 1000128)]⟩
noncomputable def f19B : Nat → Option Clean := lookL [(1000000, f19l1)]
noncomputable abbrev f19i {ρ : Type} (N : Nat) (c : Code) (p : Plan) (σ : St) (K : KT ρ) : Option ρ := iCode f19G tab f19B N c p σ K
noncomputable def f19c (n : Nat) : Code := codeN 99 (bodyOf Try.f19) n
theorem f19t0 N v0 (K : KT ρ) : f19i N (f19c 1) .n (f19s0 v0) (joinK (some f19lE) K) =
  impl_GreenSequences.Z0 N v0 (fun v2 v3 => K .ret (f19s1 v2 v3)) := by kernel_rfl
theorem f19m (N : Nat) (v0 : MT) : f19i N (f19c 1) .n (f19s0 v0) (joinK (some f19lE) (finK tab f19sig Try.f19.results.toList)) = impl_GreenSequences.Z0 N v0 (fun v2 v3 => some ((), (v2, (v3, ())))) :=
  (f19t0 N v0 (finK tab f19sig Try.f19.results.toList)).trans (by kernel_rfl)
theorem f19ok (h : impl_GreenSequences.Spec) : EntryOk Try.prog 19 e19 :=
  entry_of_code (sig := f19sig) (c := (f19c 1)) (pl := .n) (je := (some f19lE)) (B := f19B) Try.func19 (by kernel_rfl) (by kernel_rfl) (by kernel_rfl) tabOk f19GOk (by kernel_rfl) (by kernel_rfl) (by kernel_rfl) (by kernel_rfl) fun X hb hp => by
    obtain ⟨v0, _⟩ := X
    obtain ⟨N, h⟩ := h v0 hb.1
    exact ⟨N, (f19m N v0).trans (h N (Nat.le_refl N))⟩
theorem e19ok : EntryOk Try.prog 19 e19 := f19ok impl_GreenSequences.ok
end Go.Fw
namespace Go.Fw
variable {ρ : Type}
open Go.Proofs
noncomputable def f37sig : Sig := ⟨[⟨.sl 3 (.int .i64), false, false⟩, ⟨.sl 3 (.int .i64), false, false⟩], [⟨.bool, false, false⟩]⟩
noncomputable def e37 : Entry := ⟨f37sig, none, fun X => ((), ((laws_eqIntS.g X.1 X.2.1), ()))⟩
noncomputable def f37G : Gm := emptyG
theorem f37GOk : GOk Try.prog f37G := GOk.nil
noncomputable def f37lE : Clean := ⟨[], [], [], [], []⟩
noncomputable def f37s0 (v0 v1 : LI) : St := initSt f37sig.ps (v0, (v1, ()))
noncomputable def f37s1 (v0 v1 : LI) : St := stOf [(0, .c (.sn 3 tI v0 none)), (1, .c (.sn 3 tI v1 none))] [] []
noncomputable def f37l1 : Clean := ⟨[0, 1], [], [], [], []⟩
noncomputable def f37s2 (v0 v1 : LI) (v5 : Int) : St := stOf [(0, .c (.sn 3 tI v0 none)), (1, .c (.sn 3 tI v1 none)), (5, xi v5)] [] []
noncomputable def f37l2 : Clean := ⟨[0, 1, 5], [], [], [], []⟩
noncomputable def f37s3  : St := stOf [] [] []
noncomputable def f37l3 : Clean := ⟨[], [], [], [], []⟩
noncomputable def f37s4 (v4 : Bool) : St := stOf [(4, xB v4)] [] []
noncomputable def f37l4 : Clean := ⟨[4], [], [], [], []⟩
noncomputable def f37B : Nat → Option Clean := lookL [(0, f37l3), (1000000, f37l4)]
noncomputable abbrev f37i {ρ : Type} (N : Nat) (c : Code) (p : Plan) (σ : St) (K : KT ρ) : Option ρ := iCode f37G tab f37B N c p σ K
noncomputable def f37c (n : Nat) : Code := codeN 99 (bodyOf Try.f37) n
theorem f37t1 N v0 v1 (K : KT ρ) : f37i N (f37c 2) .n (f37s0 v0 v1) (joinK (some f37l1) K) =
  laws_eqIntS.Z1 N v0 v1 (fun v0 v1 => K .nrm (f37s1 v0 v1)) := by kernel_rfl
theorem f37t3 N v0 v1 (K : KT ρ) : f37i N (f37c 5) .n (f37s1 v0 v1) (joinK (some f37l1) K) =
  laws_eqIntS.Z3 N v0 v1 (fun v0 v1 => K .nrm (f37s1 v0 v1)) (fun v4 => K .ret (f37s4 v4)) := by kernel_rfl
theorem f37t6 N v0 v1 (K : KT ρ) : f37i N (f37c 19) .n (f37s1 v0 v1) (joinK (some f37l2) K) =
  laws_eqIntS.Z6 N v0 v1 (fun v0 v1 v5 => K .nrm (f37s2 v0 v1 v5)) := by kernel_rfl
theorem f37t9 N v0 v1 v5 (K : KT ρ) : f37i N (f37c 75) .n (f37s2 v0 v1 v5) (joinK (some f37l2) K) =
  laws_eqIntS.Z9 N v0 v1 v5 (fun v0 v1 v5 => K .nrm (f37s2 v0 v1 v5)) (K (.exit 0) f37s3) (fun v4 => K .ret (f37s4 v4)) := by kernel_rfl
noncomputable def f37p8 : Plan := .mk none (some f37l2) .n .n
noncomputable abbrev f37w8 {ρ : Type} (N M : Nat) (σ : St) (K : KT ρ) : Option ρ := loopC (fun σ K => f37i N (f37c 75) .n σ K) f37l2 M σ K
theorem f37t8L {ρ : Type} (N : Nat) (K : KT ρ) : ∀ (M : Nat) (v0 v1 : LI) (v5 : Int), f37w8 N M (f37s2 v0 v1 v5) K =
  laws_eqIntS.Z8L N (K (.exit 0) f37s3) (fun v4 => K .ret (f37s4 v4)) M v0 v1 v5
  | 0, _, _, _ => rfl
  | M + 1, v0, v1, v5 => viaRoundS (fun k => laws_eqIntS.Z9 N v0 v1 v5 k (K (.exit 0) f37s3) (fun v4 => K .ret (f37s4 v4))) (f37t9 N (K := seqK (fun σ => f37w8 N M σ K) K) ..) (fx3 fun v0 v1 v5 => f37t8L N K M v0 v1 v5) (by kernel_rfl)
theorem f37t8 N v0 v1 v5 (K : KT ρ) : f37i N (f37c 43) f37p8 (f37s2 v0 v1 v5) (joinK (some f37l3) K) =
  laws_eqIntS.Z8 N v0 v1 v5 (K (.exit 0) f37s3) (fun v4 => K .ret (f37s4 v4)) :=
 viaLoopS (by kernel_rfl) (f37t8L N (joinK (some f37l3) K) N v0 v1 v5) (by kernel_rfl)
noncomputable def f37p7 : Plan := .mk (some f37l3) none f37p8 .n
theorem f37t7 N v0 v1 v5 (K : KT ρ) : f37i N (f37c 27) f37p7 (f37s2 v0 v1 v5) (joinK (some f37l3) K) =
  laws_eqIntS.Z7 N v0 v1 v5 (K .nrm f37s3) (fun v4 => K .ret (f37s4 v4)) :=
 viaBlockS (by kernel_rfl) (f37t8 N (K := blockK 0 (joinK (some f37l3) K)) ..) (by kernel_rfl)
noncomputable def f37p5 : Plan := .mk (some f37l2) none .n f37p7
theorem f37t5 N v0 v1 (K : KT ρ) : f37i N (f37c 11) f37p5 (f37s1 v0 v1) (joinK (some f37l3) K) =
  laws_eqIntS.Z5 N v0 v1 (K .nrm f37s3) (fun v4 => K .ret (f37s4 v4)) :=
 viaSeqS (fun k => laws_eqIntS.Z6 N v0 v1 k) (by kernel_rfl) (f37t6 N (K := seqK (fun σ => f37i N (f37c 27) f37p7 σ (joinK (some f37l3) K)) (joinK (some f37l3) K)) ..) (fx3 fun v0 v1 v5 => f37t7 N v0 v1 v5 K) (by kernel_rfl)
theorem f37t10 N  (K : KT ρ) : f37i N (f37c 15) .n f37s3 (joinK (some f37lE) K) =
  laws_eqIntS.Z10 N (fun v4 => K .ret (f37s4 v4)) := by kernel_rfl
noncomputable def f37p4 : Plan := .mk (some f37l3) none f37p5 .n
theorem f37t4 N v0 v1 (K : KT ρ) : f37i N (f37c 7) f37p4 (f37s1 v0 v1) (joinK (some f37lE) K) =
  laws_eqIntS.Z4 N v0 v1 (fun v4 => K .ret (f37s4 v4)) :=
 viaSeqS (fun k => laws_eqIntS.Z5 N v0 v1 k (fun v4 => K .ret (f37s4 v4))) (by kernel_rfl) (f37t5 N (K := seqK (fun σ => f37i N (f37c 15) .n σ (joinK (some f37lE) K)) (joinK (some f37lE) K)) ..) (f37t10 N K) (by kernel_rfl)
noncomputable def f37p2 : Plan := .mk (some f37l1) none .n f37p4
theorem f37t2 N v0 v1 (K : KT ρ) : f37i N (f37c 3) f37p2 (f37s1 v0 v1) (joinK (some f37lE) K) =
  laws_eqIntS.Z2 N v0 v1 (fun v4 => K .ret (f37s4 v4)) :=
 viaSeqS (fun k => laws_eqIntS.Z3 N v0 v1 k (fun v4 => K .ret (f37s4 v4))) (by kernel_rfl) (f37t3 N (K := seqK (fun σ => f37i N (f37c 7) f37p4 σ (joinK (some f37lE) K)) (joinK (some f37lE) K)) ..) (fx2 fun v0 v1 => f37t4 N v0 v1 K) (by kernel_rfl)
noncomputable def f37p0 : Plan := .mk (some f37l1) none .n f37p2
theorem f37t0 N v0 v1 (K : KT ρ) : f37i N (f37c 1) f37p0 (f37s0 v0 v1) (joinK (some f37lE) K) =
  laws_eqIntS.Z0 N v0 v1 (fun v4 => K .ret (f37s4 v4)) :=
 viaSeqS (fun k => laws_eqIntS.Z1 N v0 v1 k) (by kernel_rfl) (f37t1 N (K := seqK (fun σ => f37i N (f37c 3) f37p2 σ (joinK (some f37lE) K)) (joinK (some f37lE) K)) ..) (fx2 fun v0 v1 => f37t2 N v0 v1 K) (by kernel_rfl)
theorem f37m (N : Nat) (v0 v1 : LI) : f37i N (f37c 1) f37p0 (f37s0 v0 v1) (joinK (some f37lE) (finK tab f37sig Try.f37.results.toList)) = laws_eqIntS.Z0 N v0 v1 (fun v4 => some ((), (v4, ()))) :=
  (f37t0 N v0 v1 (finK tab f37sig Try.f37.results.toList)).trans (by kernel_rfl)
theorem f37ok (h : laws_eqIntS.Spec) : EntryOk Try.prog 37 e37 :=
  entry_of_code (sig := f37sig) (c := (f37c 1)) (pl := f37p0) (je := (some f37lE)) (B := f37B) Try.func37 (by kernel_rfl) (by kernel_rfl) (by kernel_rfl) tabOk f37GOk (by kernel_rfl) (by kernel_rfl) (by kernel_rfl) (by kernel_rfl) fun X hb hp => by
    obtain ⟨v0, v1, _⟩ := X
    obtain ⟨N, h⟩ := h v0 v1 hb.1 hb.2.1
    exact ⟨N, (f37m N v0 v1).trans (h N (Nat.le_refl N))⟩
theorem e37ok : EntryOk Try.prog 37 e37 := f37ok laws_eqIntS.ok
end Go.Fw
namespace Go.Fw
variable {ρ : Type}
open Go.Proofs
noncomputable def f20sig : Sig := ⟨[⟨.sl 22 (.sl 3 (.int .i64)), false, false⟩, ⟨.sl 22 (.sl 3 (.int .i64)), false, false⟩], [⟨.bool, false, false⟩]⟩
noncomputable def e20 : Entry := ⟨f20sig, none, fun X => ((), ((laws_eqIntSS.g X.1 X.2.1), ()))⟩
noncomputable def f20G : Gm := addG emptyG 37 e37
theorem f20GOk : GOk Try.prog f20G := (GOk.nil).add e37ok (by kernel_rfl)
noncomputable def f20lE : Clean := ⟨[], [], [], [], []⟩
noncomputable def f20s0 (v0 v1 : LL) : St := initSt f20sig.ps (v0, (v1, ()))
noncomputable def f20s1 (v0 v1 : LL) : St := stOf [(0, .c (.sn 22 (.sl 3 tI) v0 none)), (1, .c (.sn 22 (.sl 3 tI) v1 none))] [] []
noncomputable def f20l1 : Clean := ⟨[0, 1], [], [], [], []⟩
noncomputable def f20s2 (v0 v1 : LL) (v5 : Int) : St := stOf [(0, .c (.sn 22 (.sl 3 tI) v0 none)), (1, .c (.sn 22 (.sl 3 tI) v1 none)), (5, xi v5)] [] []
noncomputable def f20l2 : Clean := ⟨[0, 1, 5], [], [], [], []⟩
noncomputable def f20s3  : St := stOf [] [] []
noncomputable def f20l3 : Clean := ⟨[], [], [], [], []⟩
noncomputable def f20s4 (v4 : Bool) : St := stOf [(4, xB v4)] [] []
noncomputable def f20l4 : Clean := ⟨[4], [], [], [], []⟩
noncomputable def f20B : Nat → Option Clean := lookL [(0, f20l3), (1000000, f20l4)]
noncomputable abbrev f20i {ρ : Type} (N : Nat) (c : Code) (p : Plan) (σ : St) (K : KT ρ) : Option ρ := iCode f20G tab f20B N c p σ K
noncomputable def f20c (n : Nat) : Code := codeN 99 (bodyOf Try.f20) n
theorem f20t1 N v0 v1 (K : KT ρ) : f20i N (f20c 2) .n (f20s0 v0 v1) (joinK (some f20l1) K) =
  laws_eqIntSS.Z1 N v0 v1 (fun v0 v1 => K .nrm (f20s1 v0 v1)) := by kernel_rfl
theorem f20t3 N v0 v1 (K : KT ρ) : f20i N (f20c 5) .n (f20s1 v0 v1) (joinK (some f20l1) K) =
  laws_eqIntSS.Z3 N v0 v1 (fun v0 v1 => K .nrm (f20s1 v0 v1)) (fun v4 => K .ret (f20s4 v4)) := by kernel_rfl
theorem f20t6 N v0 v1 (K : KT ρ) : f20i N (f20c 19) .n (f20s1 v0 v1) (joinK (some f20l2) K) =
  laws_eqIntSS.Z6 N v0 v1 (fun v0 v1 v5 => K .nrm (f20s2 v0 v1 v5)) := by kernel_rfl
theorem f20t9 N v0 v1 v5 (K : KT ρ) : f20i N (f20c 75) .n (f20s2 v0 v1 v5) (joinK (some f20l2) K) =
  laws_eqIntSS.Z9 N v0 v1 v5 (fun v0 v1 v5 => K .nrm (f20s2 v0 v1 v5)) (K (.exit 0) f20s3) (fun v4 => K .ret (f20s4 v4)) := by kernel_rfl
noncomputable def f20p8 : Plan := .mk none (some f20l2) .n .n
noncomputable abbrev f20w8 {ρ : Type} (N M : Nat) (σ : St) (K : KT ρ) : Option ρ := loopC (fun σ K => f20i N (f20c 75) .n σ K) f20l2 M σ K
theorem f20t8L {ρ : Type} (N : Nat) (K : KT ρ) : ∀ (M : Nat) (v0 v1 : LL) (v5 : Int), f20w8 N M (f20s2 v0 v1 v5) K =
  laws_eqIntSS.Z8L N (K (.exit 0) f20s3) (fun v4 => K .ret (f20s4 v4)) M v0 v1 v5
  | 0, _, _, _ => rfl
  | M + 1, v0, v1, v5 => viaRoundS (fun k => laws_eqIntSS.Z9 N v0 v1 v5 k (K (.exit 0) f20s3) (fun v4 => K .ret (f20s4 v4))) (f20t9 N (K := seqK (fun σ => f20w8 N M σ K) K) ..) (fx3 fun v0 v1 v5 => f20t8L N K M v0 v1 v5) (by kernel_rfl)
theorem f20t8 N v0 v1 v5 (K : KT ρ) : f20i N (f20c 43) f20p8 (f20s2 v0 v1 v5) (joinK (some f20l3) K) =
  laws_eqIntSS.Z8 N v0 v1 v5 (K (.exit 0) f20s3) (fun v4 => K .ret (f20s4 v4)) :=
 viaLoopS (by kernel_rfl) (f20t8L N (joinK (some f20l3) K) N v0 v1 v5) (by kernel_rfl)
noncomputable def f20p7 : Plan := .mk (some f20l3) none f20p8 .n
theorem f20t7 N v0 v1 v5 (K : KT ρ) : f20i N (f20c 27) f20p7 (f20s2 v0 v1 v5) (joinK (some f20l3) K) =
  laws_eqIntSS.Z7 N v0 v1 v5 (K .nrm f20s3) (fun v4 => K .ret (f20s4 v4)) :=
 viaBlockS (by kernel_rfl) (f20t8 N (K := blockK 0 (joinK (some f20l3) K)) ..) (by kernel_rfl)
noncomputable def f20p5 : Plan := .mk (some f20l2) none .n f20p7
theorem f20t5 N v0 v1 (K : KT ρ) : f20i N (f20c 11) f20p5 (f20s1 v0 v1) (joinK (some f20l3) K) =
  laws_eqIntSS.Z5 N v0 v1 (K .nrm f20s3) (fun v4 => K .ret (f20s4 v4)) :=
 viaSeqS (fun k => laws_eqIntSS.Z6 N v0 v1 k) (by kernel_rfl) (f20t6 N (K := seqK (fun σ => f20i N (f20c 27) f20p7 σ (joinK (some f20l3) K)) (joinK (some f20l3) K)) ..) (fx3 fun v0 v1 v5 => f20t7 N v0 v1 v5 K) (by kernel_rfl)
theorem f20t10 N  (K : KT ρ) : f20i N (f20c 15) .n f20s3 (joinK (some f20lE) K) =
  laws_eqIntSS.Z10 N (fun v4 => K .ret (f20s4 v4)) := by kernel_rfl
noncomputable def f20p4 : Plan := .mk (some f20l3) none f20p5 .n
theorem f20t4 N v0 v1 (K : KT ρ) : f20i N (f20c 7) f20p4 (f20s1 v0 v1) (joinK (some f20lE) K) =
  laws_eqIntSS.Z4 N v0 v1 (fun v4 => K .ret (f20s4 v4)) :=
 viaSeqS (fun k => laws_eqIntSS.Z5 N v0 v1 k (fun v4 => K .ret (f20s4 v4))) (by kernel_rfl) (f20t5 N (K := seqK (fun σ => f20i N (f20c 15) .n σ (joinK (some f20lE) K)) (joinK (some f20lE) K)) ..) (f20t10 N K) (by kernel_rfl)
noncomputable def f20p2 : Plan := .mk (some f20l1) none .n f20p4
theorem f20t2 N v0 v1 (K : KT ρ) : f20i N (f20c 3) f20p2 (f20s1 v0 v1) (joinK (some f20lE) K) =
  laws_eqIntSS.Z2 N v0 v1 (fun v4 => K .ret (f20s4 v4)) :=
 viaSeqS (fun k => laws_eqIntSS.Z3 N v0 v1 k (fun v4 => K .ret (f20s4 v4))) (by kernel_rfl) (f20t3 N (K := seqK (fun σ => f20i N (f20c 7) f20p4 σ (joinK (some f20lE) K)) (joinK (some f20lE) K)) ..) (fx2 fun v0 v1 => f20t4 N v0 v1 K) (by kernel_rfl)
noncomputable def f20p0 : Plan := .mk (some f20l1) none .n f20p2
theorem f20t0 N v0 v1 (K : KT ρ) : f20i N (f20c 1) f20p0 (f20s0 v0 v1) (joinK (some f20lE) K) =
  laws_eqIntSS.Z0 N v0 v1 (fun v4 => K .ret (f20s4 v4)) :=
 viaSeqS (fun k => laws_eqIntSS.Z1 N v0 v1 k) (by kernel_rfl) (f20t1 N (K := seqK (fun σ => f20i N (f20c 3) f20p2 σ (joinK (some f20lE) K)) (joinK (some f20lE) K)) ..) (fx2 fun v0 v1 => f20t2 N v0 v1 K) (by kernel_rfl)
theorem f20m (N : Nat) (v0 v1 : LL) : f20i N (f20c 1) f20p0 (f20s0 v0 v1) (joinK (some f20lE) (finK tab f20sig Try.f20.results.toList)) = laws_eqIntSS.Z0 N v0 v1 (fun v4 => some ((), (v4, ()))) :=
  (f20t0 N v0 v1 (finK tab f20sig Try.f20.results.toList)).trans (by kernel_rfl)
theorem f20ok (h : laws_eqIntSS.Spec) : EntryOk Try.prog 20 e20 :=
  entry_of_code (sig := f20sig) (c := (f20c 1)) (pl := f20p0) (je := (some f20lE)) (B := f20B) Try.func20 (by kernel_rfl) (by kernel_rfl) (by kernel_rfl) tabOk f20GOk (by kernel_rfl) (by kernel_rfl) (by kernel_rfl) (by kernel_rfl) fun X hb hp => by
    obtain ⟨v0, v1, _⟩ := X
    obtain ⟨N, h⟩ := h v0 v1 hb.1 hb.2.1
    exact ⟨N, (f20m N v0 v1).trans (h N (Nat.le_refl N))⟩
theorem e20ok : EntryOk Try.prog 20 e20 := f20ok laws_eqIntSS.ok
end Go.Fw
namespace Go.Fw
variable {ρ : Type}
open Go.Proofs
noncomputable def f21sig : Sig := ⟨[⟨.pair (.int .i64) (.pair (.int .i64) (.sl 3 (.int .i64))), true, false⟩, ⟨.pair (.int .i64) (.pair (.int .i64) (.sl 3 (.int .i64))), true, false⟩], [⟨.bool, false, false⟩]⟩
noncomputable def e21 : Entry := ⟨f21sig, none, fun X => ((), ((laws_eqMatrix.g X.1 X.2.1), ()))⟩
noncomputable def f21G : Gm := addG emptyG 37 e37
theorem f21GOk : GOk Try.prog f21G := (GOk.nil).add e37ok (by kernel_rfl)
noncomputable def f21lE : Clean := ⟨[], [], [], [], []⟩
noncomputable def f21s0 (v0 v1 : MT) : St := initSt f21sig.ps (v0, (v1, ()))
noncomputable def f21s1 (v4 : Bool) : St := stOf [(4, xB v4)] [] []
noncomputable def f21l1 : Clean := ⟨[4], [], [], [], []⟩
noncomputable def f21B : Nat → Option Clean := lookL [(1000000, f21l1)]
noncomputable abbrev f21i {ρ : Type} (N : Nat) (c : Code) (p : Plan) (σ : St) (K : KT ρ) : Option ρ := iCode f21G tab f21B N c p σ K
noncomputable def f21c (n : Nat) : Code := codeN 99 (bodyOf Try.f21) n
theorem f21t0 N v0 v1 (K : KT ρ) : f21i N (f21c 1) .n (f21s0 v0 v1) (joinK (some f21lE) K) =
  laws_eqMatrix.Z0 N v0 v1 (fun v4 => K .ret (f21s1 v4)) := by kernel_rfl
theorem f21m (N : Nat) (v0 v1 : MT) : f21i N (f21c 1) .n (f21s0 v0 v1) (joinK (some f21lE) (finK tab f21sig Try.f21.results.toList)) = laws_eqMatrix.Z0 N v0 v1 (fun v4 => some ((), (v4, ()))) :=
  (f21t0 N v0 v1 (finK tab f21sig Try.f21.results.toList)).trans (by kernel_rfl)
theorem f21ok (h : laws_eqMatrix.Spec) : EntryOk Try.prog 21 e21 :=
  entry_of_code (sig := f21sig) (c := (f21c 1)) (pl := .n) (je := (some f21lE)) (B := f21B) Try.func21 (by kernel_rfl) (by kernel_rfl) (by kernel_rfl) tabOk f21GOk (by kernel_rfl) (by kernel_rfl) (by kernel_rfl) (by kernel_rfl) fun X hb hp => by
    obtain ⟨v0, v1, _⟩ := X
    obtain ⟨N, h⟩ := h v0 v1 hb.1 hb.2.1
    exact ⟨N, (f21m N v0 v1).trans (h N (Nat.le_refl N))⟩
theorem e21ok : EntryOk Try.prog 21 e21 := f21ok laws_eqMatrix.ok
end Go.Fw
namespace Go.Fw
variable {ρ : Type}
open Go.Proofs
noncomputable def f38sig : Sig := ⟨[⟨.sl 3 (.int .i64), false, true⟩, ⟨.int .i64, false, false⟩], [⟨.int .i64, false, false⟩]⟩
noncomputable def e38 : Entry := ⟨f38sig, none, fun X => ((laws_markIntS.g X.1 X.2.1).1, ((laws_markIntS.g X.1 X.2.1).2, ()))⟩
noncomputable def f38G : Gm := emptyG
theorem f38GOk : GOk Try.prog f38G := GOk.nil
noncomputable def f38lE : Clean := ⟨[], [], [], [], []⟩
noncomputable def f38s0 (v0 : LI) (v1 : Int) : St := initSt f38sig.ps (v0, (v1, ()))
noncomputable def f38s1 (v0 : LI) (v1 : Int) : St := stOf [(0, xo 1000000), (1, xi v1), (100000, xo 1000000)] [] [(1000000, (⟨3, .int .i64, v0, true, false⟩ : Row))]
noncomputable def f38l1 : Clean := ⟨[0, 1, 100000], [], [], [], [(⟨false, 0, 0⟩, 1000000)]⟩
noncomputable def f38s2 (v0 : LI) (v1 v5 : Int) : St := stOf [(0, xo 1000000), (1, xi v1), (5, xi v5), (100000, xo 1000000)] [] [(1000000, (⟨3, .int .i64, v0, true, false⟩ : Row))]
noncomputable def f38l2 : Clean := ⟨[0, 1, 5, 100000], [], [], [], [(⟨false, 0, 0⟩, 1000000)]⟩
noncomputable def f38s3 (io100000 : LI) (v1 : Int) : St := stOf [(1, xi v1), (100000, xo 7400000)] [] [(7400000, (⟨3, .int .i64, io100000, true, false⟩ : Row))]
noncomputable def f38l3 : Clean := ⟨[1, 100000], [], [], [], [(⟨false, 100000, 0⟩, 7400000)]⟩
noncomputable def f38s4 (io100000 : LI) (v4 : Int) : St := stOf [(4, xi v4), (100000, xo 7400000)] [] [(7400000, (⟨3, .int .i64, io100000, true, false⟩ : Row))]
noncomputable def f38l4 : Clean := ⟨[4, 100000], [], [], [], [(⟨false, 100000, 0⟩, 7400000)]⟩
noncomputable def f38B : Nat → Option Clean := lookL [(0, f38l3), (1000000, f38l4)]
noncomputable abbrev f38i {ρ : Type} (N : Nat) (c : Code) (p : Plan) (σ : St) (K : KT ρ) : Option ρ := iCode f38G tab f38B N c p σ K
noncomputable def f38c (n : Nat) : Code := codeN 99 (bodyOf Try.f38) n
theorem f38t1 N v0 v1 (K : KT ρ) : f38i N (f38c 2) .n (f38s0 v0 v1) (joinK (some f38l1) K) =
  laws_markIntS.Z1 N v0 v1 (fun v0 v1 => K .nrm (f38s1 v0 v1)) := by kernel_rfl
theorem f38t4 N v0 v1 (K : KT ρ) : f38i N (f38c 9) .n (f38s1 v0 v1) (joinK (some f38l2) K) =
  laws_markIntS.Z4 N v0 v1 (fun v0 v1 v5 => K .nrm (f38s2 v0 v1 v5)) := by kernel_rfl
theorem f38t7 N v0 v1 v5 (K : KT ρ) : f38i N (f38c 37) .n (f38s2 v0 v1 v5) (joinK (some f38l2) K) =
  laws_markIntS.Z7 N v0 v1 v5 (fun v0 v1 v5 => K .nrm (f38s2 v0 v1 v5)) (fun io100000 v1 => K (.exit 0) (f38s3 io100000 v1)) := by kernel_rfl
noncomputable def f38p6 : Plan := .mk none (some f38l2) .n .n
noncomputable abbrev f38w6 {ρ : Type} (N M : Nat) (σ : St) (K : KT ρ) : Option ρ := loopC (fun σ K => f38i N (f38c 37) .n σ K) f38l2 M σ K
theorem f38t6L {ρ : Type} (N : Nat) (K : KT ρ) : ∀ (M : Nat) (v0 : LI) (v1 v5 : Int), f38w6 N M (f38s2 v0 v1 v5) K =
  laws_markIntS.Z6L N (fun io100000 v1 => K (.exit 0) (f38s3 io100000 v1)) M v0 v1 v5
  | 0, _, _, _ => rfl
  | M + 1, v0, v1, v5 => viaRoundS (fun k => laws_markIntS.Z7 N v0 v1 v5 k (fun io100000 v1 => K (.exit 0) (f38s3 io100000 v1))) (f38t7 N (K := seqK (fun σ => f38w6 N M σ K) K) ..) (fx3 fun v0 v1 v5 => f38t6L N K M v0 v1 v5) (by kernel_rfl)
theorem f38t6 N v0 v1 v5 (K : KT ρ) : f38i N (f38c 21) f38p6 (f38s2 v0 v1 v5) (joinK (some f38l3) K) =
  laws_markIntS.Z6 N v0 v1 v5 (fun io100000 v1 => K (.exit 0) (f38s3 io100000 v1)) :=
 viaLoopS (by kernel_rfl) (f38t6L N (joinK (some f38l3) K) N v0 v1 v5) (by kernel_rfl)
noncomputable def f38p5 : Plan := .mk (some f38l3) none f38p6 .n
theorem f38t5 N v0 v1 v5 (K : KT ρ) : f38i N (f38c 13) f38p5 (f38s2 v0 v1 v5) (joinK (some f38l3) K) =
  laws_markIntS.Z5 N v0 v1 v5 (fun io100000 v1 => K .nrm (f38s3 io100000 v1)) :=
 viaBlockS (by kernel_rfl) (f38t6 N (K := blockK 0 (joinK (some f38l3) K)) ..) (by kernel_rfl)
noncomputable def f38p3 : Plan := .mk (some f38l2) none .n f38p5
theorem f38t3 N v0 v1 (K : KT ρ) : f38i N (f38c 5) f38p3 (f38s1 v0 v1) (joinK (some f38l3) K) =
  laws_markIntS.Z3 N v0 v1 (fun io100000 v1 => K .nrm (f38s3 io100000 v1)) :=
 viaSeqS (fun k => laws_markIntS.Z4 N v0 v1 k) (by kernel_rfl) (f38t4 N (K := seqK (fun σ => f38i N (f38c 13) f38p5 σ (joinK (some f38l3) K)) (joinK (some f38l3) K)) ..) (fx3 fun v0 v1 v5 => f38t5 N v0 v1 v5 K) (by kernel_rfl)
theorem f38t8 N io100000 v1 (K : KT ρ) : f38i N (f38c 7) .n (f38s3 io100000 v1) (joinK (some f38lE) K) =
  laws_markIntS.Z8 N io100000 v1 (fun io100000 v4 => K .ret (f38s4 io100000 v4)) := by kernel_rfl
noncomputable def f38p2 : Plan := .mk (some f38l3) none f38p3 .n
theorem f38t2 N v0 v1 (K : KT ρ) : f38i N (f38c 3) f38p2 (f38s1 v0 v1) (joinK (some f38lE) K) =
  laws_markIntS.Z2 N v0 v1 (fun io100000 v4 => K .ret (f38s4 io100000 v4)) :=
 viaSeqS (fun k => laws_markIntS.Z3 N v0 v1 k) (by kernel_rfl) (f38t3 N (K := seqK (fun σ => f38i N (f38c 7) .n σ (joinK (some f38lE) K)) (joinK (some f38lE) K)) ..) (fx2 fun io100000 v1 => f38t8 N io100000 v1 K) (by kernel_rfl)
noncomputable def f38p0 : Plan := .mk (some f38l1) none .n f38p2
theorem f38t0 N v0 v1 (K : KT ρ) : f38i N (f38c 1) f38p0 (f38s0 v0 v1) (joinK (some f38lE) K) =
  laws_markIntS.Z0 N v0 v1 (fun io100000 v4 => K .ret (f38s4 io100000 v4)) :=
 viaSeqS (fun k => laws_markIntS.Z1 N v0 v1 k) (by kernel_rfl) (f38t1 N (K := seqK (fun σ => f38i N (f38c 3) f38p2 σ (joinK (some f38lE) K)) (joinK (some f38lE) K)) ..) (fx2 fun v0 v1 => f38t2 N v0 v1 K) (by kernel_rfl)
theorem f38m (N : Nat) (v0 : LI) (v1 : Int) : f38i N (f38c 1) f38p0 (f38s0 v0 v1) (joinK (some f38lE) (finK tab f38sig Try.f38.results.toList)) = laws_markIntS.Z0 N v0 v1 (fun io100000 v4 => some (io100000, (v4, ()))) :=
  (f38t0 N v0 v1 (finK tab f38sig Try.f38.results.toList)).trans (by kernel_rfl)
theorem f38ok (h : laws_markIntS.Spec) : EntryOk Try.prog 38 e38 :=
  entry_of_code (sig := f38sig) (c := (f38c 1)) (pl := f38p0) (je := (some f38lE)) (B := f38B) Try.func38 (by kernel_rfl) (by kernel_rfl) (by kernel_rfl) tabOk f38GOk (by kernel_rfl) (by kernel_rfl) (by kernel_rfl) (by kernel_rfl) fun X hb hp => by
    obtain ⟨v0, v1, _⟩ := X
    obtain ⟨N, h⟩ := h v0 v1 hb.1
    exact ⟨N, (f38m N v0 v1).trans (h N (Nat.le_refl N))⟩
theorem e38ok : EntryOk Try.prog 38 e38 := f38ok laws_markIntS.ok
end Go.Fw
namespace Go.Fw
variable {ρ : Type}
open Go.Proofs
noncomputable def f22sig : Sig := ⟨[⟨.pair (.int .i64) (.pair (.int .i64) (.sl 3 (.int .i64))), true, true⟩, ⟨.int .i64, false, false⟩], [⟨.int .i64, false, false⟩]⟩
noncomputable def e22 : Entry := ⟨f22sig, none, fun X => ((laws_markMatrix.g X.1 X.2.1).1, ((laws_markMatrix.g X.1 X.2.1).2, ()))⟩
noncomputable def f22G : Gm := addG emptyG 38 e38
theorem f22GOk : GOk Try.prog f22G := (GOk.nil).add e38ok (by kernel_rfl)
noncomputable def f22lE : Clean := ⟨[], [], [], [], []⟩
noncomputable def f22s0 (v0 : MT) (v1 : Int) : St := initSt f22sig.ps (v0, (v1, ()))
noncomputable def f22s1 (io100000_2 : LI) (v4 io100000_0 io100000_1 : Int) : St := stOf [(4, xi v4), (100000, .agg [yi io100000_0, yi io100000_1, .own 7400002])] [] [(7400002, (⟨3, .int .i64, io100000_2, true, false⟩ : Row))]
noncomputable def f22l1 : Clean := ⟨[4, 100000], [], [], [], [(⟨false, 100000, 2⟩, 7400002)]⟩
noncomputable def f22B : Nat → Option Clean := lookL [(1000000, f22l1)]
noncomputable abbrev f22i {ρ : Type} (N : Nat) (c : Code) (p : Plan) (σ : St) (K : KT ρ) : Option ρ := iCode f22G tab f22B N c p σ K
noncomputable def f22c (n : Nat) : Code := codeN 99 (bodyOf Try.f22) n
theorem f22t0 N v0 v1 (K : KT ρ) : f22i N (f22c 1) .n (f22s0 v0 v1) (joinK (some f22lE) K) =
  laws_markMatrix.Z0 N v0 v1 (fun io100000_2 v4 io100000_0 io100000_1 => K .ret (f22s1 io100000_2 v4 io100000_0 io100000_1)) := by kernel_rfl
theorem f22m (N : Nat) (v0 : MT) (v1 : Int) : f22i N (f22c 1) .n (f22s0 v0 v1) (joinK (some f22lE) (finK tab f22sig Try.f22.results.toList)) = laws_markMatrix.Z0 N v0 v1 (fun io100000_2 v4 io100000_0 io100000_1 => some ((io100000_0, (io100000_1, io100000_2)), (v4, ()))) :=
  (f22t0 N v0 v1 (finK tab f22sig Try.f22.results.toList)).trans (by kernel_rfl)
theorem f22ok (h : laws_markMatrix.Spec) : EntryOk Try.prog 22 e22 :=
  entry_of_code (sig := f22sig) (c := (f22c 1)) (pl := .n) (je := (some f22lE)) (B := f22B) Try.func22 (by kernel_rfl) (by kernel_rfl) (by kernel_rfl) tabOk f22GOk (by kernel_rfl) (by kernel_rfl) (by kernel_rfl) (by kernel_rfl) fun X hb hp => by
    obtain ⟨v0, v1, _⟩ := X
    obtain ⟨N, h⟩ := h v0 v1 hb.1
    exact ⟨N, (f22m N v0 v1).trans (h N (Nat.le_refl N))⟩
theorem e22ok : EntryOk Try.prog 22 e22 := f22ok laws_markMatrix.ok
end Go.Fw
namespace Go.Fw
variable {ρ : Type}
open Go.Proofs
noncomputable def f23sig : Sig := ⟨[⟨.sl 22 (.sl 3 (.int .i64)), false, true⟩, ⟨.int .i64, false, false⟩], [⟨.int .i64, false, false⟩]⟩
noncomputable def e23 : Entry := ⟨f23sig, none, fun X => ((laws_markIntSS.g X.1 X.2.1).1, ((laws_markIntSS.g X.1 X.2.1).2, ()))⟩
noncomputable def f23G : Gm := addG emptyG 38 e38
theorem f23GOk : GOk Try.prog f23G := (GOk.nil).add e38ok (by kernel_rfl)
noncomputable def f23lE : Clean := ⟨[], [], [], [], []⟩
noncomputable def f23s0 (v0 : LL) (v1 : Int) : St := initSt f23sig.ps (v0, (v1, ()))
noncomputable def f23s1 (v0 : LL) (v1 : Int) : St := stOf [(0, xo 1000000), (1, xi v1), (100000, xo 1000000)] [] [(1000000, (⟨22, .sl 3 tI, v0, true, false⟩ : Row))]
noncomputable def f23l1 : Clean := ⟨[0, 1, 100000], [], [], [], [(⟨false, 0, 0⟩, 1000000)]⟩
noncomputable def f23s2 (v0 : LL) (v1 v5 : Int) : St := stOf [(0, xo 1000000), (1, xi v1), (5, xi v5), (100000, xo 1000000)] [] [(1000000, (⟨22, .sl 3 tI, v0, true, false⟩ : Row))]
noncomputable def f23l2 : Clean := ⟨[0, 1, 5, 100000], [], [], [], [(⟨false, 0, 0⟩, 1000000)]⟩
noncomputable def f23s3 (io100000 : LL) (v1 : Int) : St := stOf [(1, xi v1), (100000, xo 7400000)] [] [(7400000, (⟨22, .sl 3 tI, io100000, true, false⟩ : Row))]
noncomputable def f23l3 : Clean := ⟨[1, 100000], [], [], [], [(⟨false, 100000, 0⟩, 7400000)]⟩
noncomputable def f23s4 (io100000 : LL) (v4 : Int) : St := stOf [(4, xi v4), (100000, xo 7400000)] [] [(7400000, (⟨22, .sl 3 tI, io100000, true, false⟩ : Row))]
noncomputable def f23l4 : Clean := ⟨[4, 100000], [], [], [], [(⟨false, 100000, 0⟩, 7400000)]⟩
noncomputable def f23B : Nat → Option Clean := lookL [(0, f23l3), (1000000, f23l4)]
noncomputable abbrev f23i {ρ : Type} (N : Nat) (c : Code) (p : Plan) (σ : St) (K : KT ρ) : Option ρ := iCode f23G tab f23B N c p σ K
noncomputable def f23c (n : Nat) : Code := codeN 99 (bodyOf Try.f23) n
theorem f23t1 N v0 v1 (K : KT ρ) : f23i N (f23c 2) .n (f23s0 v0 v1) (joinK (some f23l1) K) =
  laws_markIntSS.Z1 N v0 v1 (fun v0 v1 => K .nrm (f23s1 v0 v1)) := by kernel_rfl
theorem f23t4 N v0 v1 (K : KT ρ) : f23i N (f23c 9) .n (f23s1 v0 v1) (joinK (some f23l2) K) =
  laws_markIntSS.Z4 N v0 v1 (fun v0 v1 v5 => K .nrm (f23s2 v0 v1 v5)) := by kernel_rfl
theorem f23t7 N v0 v1 v5 (K : KT ρ) : f23i N (f23c 37) .n (f23s2 v0 v1 v5) (joinK (some f23l2) K) =
  laws_markIntSS.Z7 N v0 v1 v5 (fun v0 v1 v5 => K .nrm (f23s2 v0 v1 v5)) (fun io100000 v1 => K (.exit 0) (f23s3 io100000 v1)) := by kernel_rfl
noncomputable def f23p6 : Plan := .mk none (some f23l2) .n .n
noncomputable abbrev f23w6 {ρ : Type} (N M : Nat) (σ : St) (K : KT ρ) : Option ρ := loopC (fun σ K => f23i N (f23c 37) .n σ K) f23l2 M σ K
theorem f23t6L {ρ : Type} (N : Nat) (K : KT ρ) : ∀ (M : Nat) (v0 : LL) (v1 v5 : Int), f23w6 N M (f23s2 v0 v1 v5) K =
  laws_markIntSS.Z6L N (fun io100000 v1 => K (.exit 0) (f23s3 io100000 v1)) M v0 v1 v5
  | 0, _, _, _ => rfl
  | M + 1, v0, v1, v5 => viaRoundS (fun k => laws_markIntSS.Z7 N v0 v1 v5 k (fun io100000 v1 => K (.exit 0) (f23s3 io100000 v1))) (f23t7 N (K := seqK (fun σ => f23w6 N M σ K) K) ..) (fx3 fun v0 v1 v5 => f23t6L N K M v0 v1 v5) (by kernel_rfl)
theorem f23t6 N v0 v1 v5 (K : KT ρ) : f23i N (f23c 21) f23p6 (f23s2 v0 v1 v5) (joinK (some f23l3) K) =
  laws_markIntSS.Z6 N v0 v1 v5 (fun io100000 v1 => K (.exit 0) (f23s3 io100000 v1)) :=
 viaLoopS (by kernel_rfl) (f23t6L N (joinK (some f23l3) K) N v0 v1 v5) (by kernel_rfl)
noncomputable def f23p5 : Plan := .mk (some f23l3) none f23p6 .n
theorem f23t5 N v0 v1 v5 (K : KT ρ) : f23i N (f23c 13) f23p5 (f23s2 v0 v1 v5) (joinK (some f23l3) K) =
  laws_markIntSS.Z5 N v0 v1 v5 (fun io100000 v1 => K .nrm (f23s3 io100000 v1)) :=
 viaBlockS (by kernel_rfl) (f23t6 N (K := blockK 0 (joinK (some f23l3) K)) ..) (by kernel_rfl)
noncomputable def f23p3 : Plan := .mk (some f23l2) none .n f23p5
theorem f23t3 N v0 v1 (K : KT ρ) : f23i N (f23c 5) f23p3 (f23s1 v0 v1) (joinK (some f23l3) K) =
  laws_markIntSS.Z3 N v0 v1 (fun io100000 v1 => K .nrm (f23s3 io100000 v1)) :=
 viaSeqS (fun k => laws_markIntSS.Z4 N v0 v1 k) (by kernel_rfl) (f23t4 N (K := seqK (fun σ => f23i N (f23c 13) f23p5 σ (joinK (some f23l3) K)) (joinK (some f23l3) K)) ..) (fx3 fun v0 v1 v5 => f23t5 N v0 v1 v5 K) (by kernel_rfl)
theorem f23t8 N io100000 v1 (K : KT ρ) : f23i N (f23c 7) .n (f23s3 io100000 v1) (joinK (some f23lE) K) =
  laws_markIntSS.Z8 N io100000 v1 (fun io100000 v4 => K .ret (f23s4 io100000 v4)) := by kernel_rfl
noncomputable def f23p2 : Plan := .mk (some f23l3) none f23p3 .n
theorem f23t2 N v0 v1 (K : KT ρ) : f23i N (f23c 3) f23p2 (f23s1 v0 v1) (joinK (some f23lE) K) =
  laws_markIntSS.Z2 N v0 v1 (fun io100000 v4 => K .ret (f23s4 io100000 v4)) :=
 viaSeqS (fun k => laws_markIntSS.Z3 N v0 v1 k) (by kernel_rfl) (f23t3 N (K := seqK (fun σ => f23i N (f23c 7) .n σ (joinK (some f23lE) K)) (joinK (some f23lE) K)) ..) (fx2 fun io100000 v1 => f23t8 N io100000 v1 K) (by kernel_rfl)
noncomputable def f23p0 : Plan := .mk (some f23l1) none .n f23p2
theorem f23t0 N v0 v1 (K : KT ρ) : f23i N (f23c 1) f23p0 (f23s0 v0 v1) (joinK (some f23lE) K) =
  laws_markIntSS.Z0 N v0 v1 (fun io100000 v4 => K .ret (f23s4 io100000 v4)) :=
 viaSeqS (fun k => laws_markIntSS.Z1 N v0 v1 k) (by kernel_rfl) (f23t1 N (K := seqK (fun σ => f23i N (f23c 3) f23p2 σ (joinK (some f23lE) K)) (joinK (some f23lE) K)) ..) (fx2 fun v0 v1 => f23t2 N v0 v1 K) (by kernel_rfl)
theorem f23m (N : Nat) (v0 : LL) (v1 : Int) : f23i N (f23c 1) f23p0 (f23s0 v0 v1) (joinK (some f23lE) (finK tab f23sig Try.f23.results.toList)) = laws_markIntSS.Z0 N v0 v1 (fun io100000 v4 => some (io100000, (v4, ()))) :=
  (f23t0 N v0 v1 (finK tab f23sig Try.f23.results.toList)).trans (by kernel_rfl)
theorem f23ok (h : laws_markIntSS.Spec) : EntryOk Try.prog 23 e23 :=
  entry_of_code (sig := f23sig) (c := (f23c 1)) (pl := f23p0) (je := (some f23lE)) (B := f23B) Try.func23 (by kernel_rfl) (by kernel_rfl) (by kernel_rfl) tabOk f23GOk (by kernel_rfl) (by kernel_rfl) (by kernel_rfl) (by kernel_rfl) fun X hb hp => by
    obtain ⟨v0, v1, _⟩ := X
    obtain ⟨N, h⟩ := h v0 v1 hb.1
    exact ⟨N, (f23m N v0 v1).trans (h N (Nat.le_refl N))⟩
theorem e23ok : EntryOk Try.prog 23 e23 := f23ok laws_markIntSS.ok
end Go.Fw
namespace Go.Fw
variable {ρ : Type}
open Go.Proofs
noncomputable def f64sig : Sig := ⟨[⟨.sl 3 (.int .i64), false, false⟩, ⟨.int .i64, false, false⟩], [⟨.int .i64, false, false⟩]⟩
noncomputable def e64 : Entry := ⟨f64sig, none, fun X => ((), ((laws_heldIntS.g X.1 X.2.1), ()))⟩
noncomputable def f64G : Gm := emptyG
theorem f64GOk : GOk Try.prog f64G := GOk.nil
noncomputable def f64lE : Clean := ⟨[], [], [], [], []⟩
noncomputable def f64s0 (v0 : LI) (v1 : Int) : St := initSt f64sig.ps (v0, (v1, ()))
noncomputable def f64s1 (v0 : LI) (v1 : Int) : St := stOf [(0, .c (.sn 3 tI v0 none)), (1, xi v1)] [] []
noncomputable def f64l1 : Clean := ⟨[0, 1], [], [], [], []⟩
noncomputable def f64s2 (v0 : LI) (v1 v5 : Int) : St := stOf [(0, .c (.sn 3 tI v0 none)), (1, xi v1), (5, xi v5)] [] []
noncomputable def f64l2 : Clean := ⟨[0, 1, 5], [], [], [], []⟩
noncomputable def f64s3 (v1 : Int) : St := stOf [(1, xi v1)] [] []
noncomputable def f64l3 : Clean := ⟨[1], [], [], [], []⟩
noncomputable def f64s4 (v4 : Int) : St := stOf [(4, xi v4)] [] []
noncomputable def f64l4 : Clean := ⟨[4], [], [], [], []⟩
noncomputable def f64B : Nat → Option Clean := lookL [(0, f64l3), (1000000, f64l4)]
noncomputable abbrev f64i {ρ : Type} (N : Nat) (c : Code) (p : Plan) (σ : St) (K : KT ρ) : Option ρ := iCode f64G tab f64B N c p σ K
noncomputable def f64c (n : Nat) : Code := codeN 99 (bodyOf Try.f64) n
theorem f64t1 N v0 v1 (K : KT ρ) : f64i N (f64c 2) .n (f64s0 v0 v1) (joinK (some f64l1) K) =
  laws_heldIntS.Z1 N v0 v1 (fun v0 v1 => K .nrm (f64s1 v0 v1)) := by kernel_rfl
theorem f64t4 N v0 v1 (K : KT ρ) : f64i N (f64c 9) .n (f64s1 v0 v1) (joinK (some f64l2) K) =
  laws_heldIntS.Z4 N v0 v1 (fun v0 v1 v5 => K .nrm (f64s2 v0 v1 v5)) := by kernel_rfl
theorem f64t7 N v0 v1 v5 (K : KT ρ) : f64i N (f64c 37) .n (f64s2 v0 v1 v5) (joinK (some f64l2) K) =
  laws_heldIntS.Z7 N v0 v1 v5 (fun v0 v1 v5 => K .nrm (f64s2 v0 v1 v5)) (fun v1 => K (.exit 0) (f64s3 v1)) (fun v4 => K .ret (f64s4 v4)) := by kernel_rfl
noncomputable def f64p6 : Plan := .mk none (some f64l2) .n .n
noncomputable abbrev f64w6 {ρ : Type} (N M : Nat) (σ : St) (K : KT ρ) : Option ρ := loopC (fun σ K => f64i N (f64c 37) .n σ K) f64l2 M σ K
theorem f64t6L {ρ : Type} (N : Nat) (K : KT ρ) : ∀ (M : Nat) (v0 : LI) (v1 v5 : Int), f64w6 N M (f64s2 v0 v1 v5) K =
  laws_heldIntS.Z6L N (fun v1 => K (.exit 0) (f64s3 v1)) (fun v4 => K .ret (f64s4 v4)) M v0 v1 v5
  | 0, _, _, _ => rfl
  | M + 1, v0, v1, v5 => viaRoundS (fun k => laws_heldIntS.Z7 N v0 v1 v5 k (fun v1 => K (.exit 0) (f64s3 v1)) (fun v4 => K .ret (f64s4 v4))) (f64t7 N (K := seqK (fun σ => f64w6 N M σ K) K) ..) (fx3 fun v0 v1 v5 => f64t6L N K M v0 v1 v5) (by kernel_rfl)
theorem f64t6 N v0 v1 v5 (K : KT ρ) : f64i N (f64c 21) f64p6 (f64s2 v0 v1 v5) (joinK (some f64l3) K) =
  laws_heldIntS.Z6 N v0 v1 v5 (fun v1 => K (.exit 0) (f64s3 v1)) (fun v4 => K .ret (f64s4 v4)) :=
 viaLoopS (by kernel_rfl) (f64t6L N (joinK (some f64l3) K) N v0 v1 v5) (by kernel_rfl)
noncomputable def f64p5 : Plan := .mk (some f64l3) none f64p6 .n
theorem f64t5 N v0 v1 v5 (K : KT ρ) : f64i N (f64c 13) f64p5 (f64s2 v0 v1 v5) (joinK (some f64l3) K) =
  laws_heldIntS.Z5 N v0 v1 v5 (fun v1 => K .nrm (f64s3 v1)) (fun v4 => K .ret (f64s4 v4)) :=
 viaBlockS (by kernel_rfl) (f64t6 N (K := blockK 0 (joinK (some f64l3) K)) ..) (by kernel_rfl)
noncomputable def f64p3 : Plan := .mk (some f64l2) none .n f64p5
theorem f64t3 N v0 v1 (K : KT ρ) : f64i N (f64c 5) f64p3 (f64s1 v0 v1) (joinK (some f64l3) K) =
  laws_heldIntS.Z3 N v0 v1 (fun v1 => K .nrm (f64s3 v1)) (fun v4 => K .ret (f64s4 v4)) :=
 viaSeqS (fun k => laws_heldIntS.Z4 N v0 v1 k) (by kernel_rfl) (f64t4 N (K := seqK (fun σ => f64i N (f64c 13) f64p5 σ (joinK (some f64l3) K)) (joinK (some f64l3) K)) ..) (fx3 fun v0 v1 v5 => f64t5 N v0 v1 v5 K) (by kernel_rfl)
theorem f64t8 N v1 (K : KT ρ) : f64i N (f64c 7) .n (f64s3 v1) (joinK (some f64lE) K) =
  laws_heldIntS.Z8 N v1 (fun v4 => K .ret (f64s4 v4)) := by kernel_rfl
noncomputable def f64p2 : Plan := .mk (some f64l3) none f64p3 .n
theorem f64t2 N v0 v1 (K : KT ρ) : f64i N (f64c 3) f64p2 (f64s1 v0 v1) (joinK (some f64lE) K) =
  laws_heldIntS.Z2 N v0 v1 (fun v4 => K .ret (f64s4 v4)) :=
 viaSeqS (fun k => laws_heldIntS.Z3 N v0 v1 k (fun v4 => K .ret (f64s4 v4))) (by kernel_rfl) (f64t3 N (K := seqK (fun σ => f64i N (f64c 7) .n σ (joinK (some f64lE) K)) (joinK (some f64lE) K)) ..) (funext fun v1 => f64t8 N v1 K) (by kernel_rfl)
noncomputable def f64p0 : Plan := .mk (some f64l1) none .n f64p2
theorem f64t0 N v0 v1 (K : KT ρ) : f64i N (f64c 1) f64p0 (f64s0 v0 v1) (joinK (some f64lE) K) =
  laws_heldIntS.Z0 N v0 v1 (fun v4 => K .ret (f64s4 v4)) :=
 viaSeqS (fun k => laws_heldIntS.Z1 N v0 v1 k) (by kernel_rfl) (f64t1 N (K := seqK (fun σ => f64i N (f64c 3) f64p2 σ (joinK (some f64lE) K)) (joinK (some f64lE) K)) ..) (fx2 fun v0 v1 => f64t2 N v0 v1 K) (by kernel_rfl)
theorem f64m (N : Nat) (v0 : LI) (v1 : Int) : f64i N (f64c 1) f64p0 (f64s0 v0 v1) (joinK (some f64lE) (finK tab f64sig Try.f64.results.toList)) = laws_heldIntS.Z0 N v0 v1 (fun v4 => some ((), (v4, ()))) :=
  (f64t0 N v0 v1 (finK tab f64sig Try.f64.results.toList)).trans (by kernel_rfl)
theorem f64ok (h : laws_heldIntS.Spec) : EntryOk Try.prog 64 e64 :=
  entry_of_code (sig := f64sig) (c := (f64c 1)) (pl := f64p0) (je := (some f64lE)) (B := f64B) Try.func64 (by kernel_rfl) (by kernel_rfl) (by kernel_rfl) tabOk f64GOk (by kernel_rfl) (by kernel_rfl) (by kernel_rfl) (by kernel_rfl) fun X hb hp => by
    obtain ⟨v0, v1, _⟩ := X
    obtain ⟨N, h⟩ := h v0 v1 hb.1
    exact ⟨N, (f64m N v0 v1).trans (h N (Nat.le_refl N))⟩
theorem e64ok : EntryOk Try.prog 64 e64 := f64ok laws_heldIntS.ok
end Go.Fw
namespace Go.Fw
variable {ρ : Type}
open Go.Proofs
noncomputable def f24sig : Sig := ⟨[⟨.sl 22 (.sl 3 (.int .i64)), false, false⟩, ⟨.int .i64, false, false⟩], [⟨.int .i64, false, false⟩]⟩
noncomputable def e24 : Entry := ⟨f24sig, none, fun X => ((), ((laws_heldIntSS.g X.1 X.2.1), ()))⟩
noncomputable def f24G : Gm := addG emptyG 64 e64
theorem f24GOk : GOk Try.prog f24G := (GOk.nil).add e64ok (by kernel_rfl)
noncomputable def f24lE : Clean := ⟨[], [], [], [], []⟩
noncomputable def f24s0 (v0 : LL) (v1 : Int) : St := initSt f24sig.ps (v0, (v1, ()))
noncomputable def f24s1 (v0 : LL) (v1 : Int) : St := stOf [(0, .c (.sn 22 (.sl 3 tI) v0 none)), (1, xi v1)] [] []
noncomputable def f24l1 : Clean := ⟨[0, 1], [], [], [], []⟩
noncomputable def f24s2 (v0 : LL) (v1 v5 : Int) : St := stOf [(0, .c (.sn 22 (.sl 3 tI) v0 none)), (1, xi v1), (5, xi v5)] [] []
noncomputable def f24l2 : Clean := ⟨[0, 1, 5], [], [], [], []⟩
noncomputable def f24s3 (v1 : Int) : St := stOf [(1, xi v1)] [] []
noncomputable def f24l3 : Clean := ⟨[1], [], [], [], []⟩
noncomputable def f24s4 (v4 : Int) : St := stOf [(4, xi v4)] [] []
noncomputable def f24l4 : Clean := ⟨[4], [], [], [], []⟩
noncomputable def f24B : Nat → Option Clean := lookL [(0, f24l3), (1000000, f24l4)]
noncomputable abbrev f24i {ρ : Type} (N : Nat) (c : Code) (p : Plan) (σ : St) (K : KT ρ) : Option ρ := iCode f24G tab f24B N c p σ K
noncomputable def f24c (n : Nat) : Code := codeN 99 (bodyOf Try.f24) n
theorem f24t1 N v0 v1 (K : KT ρ) : f24i N (f24c 2) .n (f24s0 v0 v1) (joinK (some f24l1) K) =
  laws_heldIntSS.Z1 N v0 v1 (fun v0 v1 => K .nrm (f24s1 v0 v1)) := by kernel_rfl
theorem f24t4 N v0 v1 (K : KT ρ) : f24i N (f24c 9) .n (f24s1 v0 v1) (joinK (some f24l2) K) =
  laws_heldIntSS.Z4 N v0 v1 (fun v0 v1 v5 => K .nrm (f24s2 v0 v1 v5)) := by kernel_rfl
theorem f24t7 N v0 v1 v5 (K : KT ρ) : f24i N (f24c 37) .n (f24s2 v0 v1 v5) (joinK (some f24l2) K) =
  laws_heldIntSS.Z7 N v0 v1 v5 (fun v0 v1 v5 => K .nrm (f24s2 v0 v1 v5)) (fun v1 => K (.exit 0) (f24s3 v1)) (fun v4 => K .ret (f24s4 v4)) := by kernel_rfl
noncomputable def f24p6 : Plan := .mk none (some f24l2) .n .n
noncomputable abbrev f24w6 {ρ : Type} (N M : Nat) (σ : St) (K : KT ρ) : Option ρ := loopC (fun σ K => f24i N (f24c 37) .n σ K) f24l2 M σ K
theorem f24t6L {ρ : Type} (N : Nat) (K : KT ρ) : ∀ (M : Nat) (v0 : LL) (v1 v5 : Int), f24w6 N M (f24s2 v0 v1 v5) K =
  laws_heldIntSS.Z6L N (fun v1 => K (.exit 0) (f24s3 v1)) (fun v4 => K .ret (f24s4 v4)) M v0 v1 v5
  | 0, _, _, _ => rfl
  | M + 1, v0, v1, v5 => viaRoundS (fun k => laws_heldIntSS.Z7 N v0 v1 v5 k (fun v1 => K (.exit 0) (f24s3 v1)) (fun v4 => K .ret (f24s4 v4))) (f24t7 N (K := seqK (fun σ => f24w6 N M σ K) K) ..) (fx3 fun v0 v1 v5 => f24t6L N K M v0 v1 v5) (by kernel_rfl)
theorem f24t6 N v0 v1 v5 (K : KT ρ) : f24i N (f24c 21) f24p6 (f24s2 v0 v1 v5) (joinK (some f24l3) K) =
  laws_heldIntSS.Z6 N v0 v1 v5 (fun v1 => K (.exit 0) (f24s3 v1)) (fun v4 => K .ret (f24s4 v4)) :=
 viaLoopS (by kernel_rfl) (f24t6L N (joinK (some f24l3) K) N v0 v1 v5) (by kernel_rfl)
noncomputable def f24p5 : Plan := .mk (some f24l3) none f24p6 .n
theorem f24t5 N v0 v1 v5 (K : KT ρ) : f24i N (f24c 13) f24p5 (f24s2 v0 v1 v5) (joinK (some f24l3) K) =
  laws_heldIntSS.Z5 N v0 v1 v5 (fun v1 => K .nrm (f24s3 v1)) (fun v4 => K .ret (f24s4 v4)) :=
 viaBlockS (by kernel_rfl) (f24t6 N (K := blockK 0 (joinK (some f24l3) K)) ..) (by kernel_rfl)
noncomputable def f24p3 : Plan := .mk (some f24l2) none .n f24p5
theorem f24t3 N v0 v1 (K : KT ρ) : f24i N (f24c 5) f24p3 (f24s1 v0 v1) (joinK (some f24l3) K) =
  laws_heldIntSS.Z3 N v0 v1 (fun v1 => K .nrm (f24s3 v1)) (fun v4 => K .ret (f24s4 v4)) :=
 viaSeqS (fun k => laws_heldIntSS.Z4 N v0 v1 k) (by kernel_rfl) (f24t4 N (K := seqK (fun σ => f24i N (f24c 13) f24p5 σ (joinK (some f24l3) K)) (joinK (some f24l3) K)) ..) (fx3 fun v0 v1 v5 => f24t5 N v0 v1 v5 K) (by kernel_rfl)
theorem f24t8 N v1 (K : KT ρ) : f24i N (f24c 7) .n (f24s3 v1) (joinK (some f24lE) K) =
  laws_heldIntSS.Z8 N v1 (fun v4 => K .ret (f24s4 v4)) := by kernel_rfl
noncomputable def f24p2 : Plan := .mk (some f24l3) none f24p3 .n
theorem f24t2 N v0 v1 (K : KT ρ) : f24i N (f24c 3) f24p2 (f24s1 v0 v1) (joinK (some f24lE) K) =
  laws_heldIntSS.Z2 N v0 v1 (fun v4 => K .ret (f24s4 v4)) :=
 viaSeqS (fun k => laws_heldIntSS.Z3 N v0 v1 k (fun v4 => K .ret (f24s4 v4))) (by kernel_rfl) (f24t3 N (K := seqK (fun σ => f24i N (f24c 7) .n σ (joinK (some f24lE) K)) (joinK (some f24lE) K)) ..) (funext fun v1 => f24t8 N v1 K) (by kernel_rfl)
noncomputable def f24p0 : Plan := .mk (some f24l1) none .n f24p2
theorem f24t0 N v0 v1 (K : KT ρ) : f24i N (f24c 1) f24p0 (f24s0 v0 v1) (joinK (some f24lE) K) =
  laws_heldIntSS.Z0 N v0 v1 (fun v4 => K .ret (f24s4 v4)) :=
 viaSeqS (fun k => laws_heldIntSS.Z1 N v0 v1 k) (by kernel_rfl) (f24t1 N (K := seqK (fun σ => f24i N (f24c 3) f24p2 σ (joinK (some f24lE) K)) (joinK (some f24lE) K)) ..) (fx2 fun v0 v1 => f24t2 N v0 v1 K) (by kernel_rfl)
theorem f24m (N : Nat) (v0 : LL) (v1 : Int) : f24i N (f24c 1) f24p0 (f24s0 v0 v1) (joinK (some f24lE) (finK tab f24sig Try.f24.results.toList)) = laws_heldIntSS.Z0 N v0 v1 (fun v4 => some ((), (v4, ()))) :=
  (f24t0 N v0 v1 (finK tab f24sig Try.f24.results.toList)).trans (by kernel_rfl)
theorem f24ok (h : laws_heldIntSS.Spec) : EntryOk Try.prog 24 e24 :=
  entry_of_code (sig := f24sig) (c := (f24c 1)) (pl := f24p0) (je := (some f24lE)) (B := f24B) Try.func24 (by kernel_rfl) (by kernel_rfl) (by kernel_rfl) tabOk f24GOk (by kernel_rfl) (by kernel_rfl) (by kernel_rfl) (by kernel_rfl) fun X hb hp => by
    obtain ⟨v0, v1, _⟩ := X
    obtain ⟨N, h⟩ := h v0 v1 hb.1
    exact ⟨N, (f24m N v0 v1).trans (h N (Nat.le_refl N))⟩
theorem e24ok : EntryOk Try.prog 24 e24 := f24ok laws_heldIntSS.ok
end Go.Fw
namespace Go.Fw
variable {ρ : Type}
open Go.Proofs
noncomputable def f4sig : Sig := ⟨[⟨.pair (.int .i64) (.pair (.int .i64) (.sl 3 (.int .i64))), true, false⟩], [⟨.bool, false, false⟩]⟩
noncomputable def e4 : Entry := ⟨f4sig, none, fun X => ((), ((laws_FnExactGreenSequences.g X.1), ()))⟩
noncomputable def f4G : Gm := addG (addG (addG (addG (addG (addG (addG (addG (addG emptyG 16 e16) 17 e17) 18 e18) 19 e19) 20 e20) 21 e21) 22 e22) 23 e23) 24 e24
theorem f4GOk : GOk Try.prog f4G := (((((((((GOk.nil).add e16ok (by kernel_rfl)).add e17ok (by kernel_rfl)).add e18ok (by kernel_rfl)).add e19ok (by kernel_rfl)).add e20ok (by kernel_rfl)).add e21ok (by kernel_rfl)).add e22ok (by kernel_rfl)).add e23ok (by kernel_rfl)).add e24ok (by kernel_rfl)
noncomputable def f4lE : Clean := ⟨[], [], [], [], []⟩
noncomputable def f4s0 (v0 : MT) : St := initSt f4sig.ps (v0, ())
noncomputable def f4s1 (v1_0 v1_1 : Int) (v1_2 : LI) : St := stOf [(1, xb 1)] [(1, (24, [yi v1_0, yi v1_1, .sn 3 tI v1_2 none]))] []
noncomputable def f4l1 : Clean := ⟨[1], [1], [], [], []⟩
noncomputable def f4s2 (v3 v1_0 v1_1 : Int) (v1_2 : LI) : St := stOf [(1, xb 1), (3, xi v3)] [(1, (24, [yi v1_0, yi v1_1, .sn 3 tI v1_2 none]))] []
noncomputable def f4l2 : Clean := ⟨[1, 3], [1], [], [], []⟩
noncomputable def f4s3 (v4 : LL) (v5 : Bool) (v1_0 v1_1 : Int) (v1_2 : LI) : St := stOf [(1, xb 1), (4, xo 1000256), (5, xB v5)] [(1, (24, [yi v1_0, yi v1_1, .sn 3 tI v1_2 none]))] [(1000256, (⟨22, .sl 3 tI, v4, true, false⟩ : Row))]
noncomputable def f4l3 : Clean := ⟨[1, 4, 5], [1], [], [], [(⟨false, 4, 0⟩, 1000256)]⟩
noncomputable def f4s4 (v4 : LL) (v6_2 : LI) (v5 : Bool) (v1_0 v1_1 : Int) (v1_2 : LI) (v6_0 v6_1 : Int) : St := stOf [(1, xb 1), (4, xo 1000256), (5, xB v5), (6, xb 6)] [(1, (24, [yi v1_0, yi v1_1, .sn 3 tI v1_2 none])), (6, (30, [yi v6_0, yi v6_1, .own 20000386]))] [(1000256, (⟨22, .sl 3 tI, v4, true, false⟩ : Row)), (20000386, (⟨3, .int .i64, v6_2, true, false⟩ : Row))]
noncomputable def f4l4 : Clean := ⟨[1, 4, 5, 6], [1, 6], [], [], [(⟨false, 4, 0⟩, 1000256), (⟨true, 6, 2⟩, 20000386)]⟩
noncomputable def f4s5 (v4 v7 : LL) (v6_2 : LI) (v5 v8 : Bool) (v1_0 v1_1 : Int) (v1_2 : LI) (v6_0 v6_1 : Int) : St := stOf [(1, xb 1), (4, xo 1000256), (5, xB v5), (6, xb 6), (7, xo 1000448), (8, xB v8)] [(1, (24, [yi v1_0, yi v1_1, .sn 3 tI v1_2 none])), (6, (30, [yi v6_0, yi v6_1, .own 20000386]))] [(1000256, (⟨22, .sl 3 tI, v4, true, false⟩ : Row)), (1000448, (⟨22, .sl 3 tI, v7, true, false⟩ : Row)), (20000386, (⟨3, .int .i64, v6_2, true, false⟩ : Row))]
noncomputable def f4l5 : Clean := ⟨[1, 4, 5, 6, 7, 8], [1, 6], [], [], [(⟨false, 4, 0⟩, 1000256), (⟨false, 7, 0⟩, 1000448), (⟨true, 6, 2⟩, 20000386)]⟩
noncomputable def f4s6 (v4 v7 : LL) (v6_2 : LI) (v5 v8 : Bool) (v9 v1_0 v1_1 : Int) (v1_2 : LI) (v6_0 v6_1 : Int) : St := stOf [(1, xb 1), (4, xo 1000256), (5, xB v5), (6, xb 6), (7, xo 1000448), (8, xB v8), (9, xi v9)] [(1, (24, [yi v1_0, yi v1_1, .sn 3 tI v1_2 none])), (6, (30, [yi v6_0, yi v6_1, .own 20000386]))] [(1000256, (⟨22, .sl 3 tI, v4, true, false⟩ : Row)), (1000448, (⟨22, .sl 3 tI, v7, true, false⟩ : Row)), (20000386, (⟨3, .int .i64, v6_2, true, false⟩ : Row))]
noncomputable def f4l6 : Clean := ⟨[1, 4, 5, 6, 7, 8, 9], [1, 6], [], [], [(⟨false, 4, 0⟩, 1000256), (⟨false, 7, 0⟩, 1000448), (⟨true, 6, 2⟩, 20000386)]⟩
noncomputable def f4s7 (v4 v7 : LL) (v5 v8 : Bool) (v9 v1_0 v1_1 : Int) (v1_2 : LI) : St := stOf [(1, xb 1), (4, xo 1000256), (5, xB v5), (7, xo 1000448), (8, xB v8), (9, xi v9)] [(1, (24, [yi v1_0, yi v1_1, .sn 3 tI v1_2 none]))] [(1000256, (⟨22, .sl 3 tI, v4, true, false⟩ : Row)), (1000448, (⟨22, .sl 3 tI, v7, true, false⟩ : Row))]
noncomputable def f4l7 : Clean := ⟨[1, 4, 5, 7, 8, 9], [1], [], [], [(⟨false, 4, 0⟩, 1000256), (⟨false, 7, 0⟩, 1000448)]⟩
noncomputable def f4s8 (v4 v7 : LL) (v5 : Bool) (v1_0 v1_1 : Int) (v1_2 : LI) : St := stOf [(1, xb 1), (4, xo 1000256), (5, xB v5), (7, xo 1000448)] [(1, (24, [yi v1_0, yi v1_1, .sn 3 tI v1_2 none]))] [(1000256, (⟨22, .sl 3 tI, v4, true, false⟩ : Row)), (1000448, (⟨22, .sl 3 tI, v7, true, false⟩ : Row))]
noncomputable def f4l8 : Clean := ⟨[1, 4, 5, 7], [1], [], [], [(⟨false, 4, 0⟩, 1000256), (⟨false, 7, 0⟩, 1000448)]⟩
noncomputable def f4s9 (v2 : Bool) : St := stOf [(2, xB v2)] [] []
noncomputable def f4l9 : Clean := ⟨[2], [], [], [], []⟩
noncomputable def f4B : Nat → Option Clean := lookL [(1000000, f4l9)]
noncomputable abbrev f4i {ρ : Type} (N : Nat) (c : Code) (p : Plan) (σ : St) (K : KT ρ) : Option ρ := iCode f4G tab f4B N c p σ K
noncomputable def f4c (n : Nat) : Code := codeN 99 (bodyOf Try.f4) n
theorem f4t1 N v0 (K : KT ρ) : f4i N (f4c 2) .n (f4s0 v0) (joinK (some f4l1) K) =
  laws_FnExactGreenSequences.Z1 N v0 (fun v1_0 v1_1 v1_2 => K .nrm (f4s1 v1_0 v1_1 v1_2)) := by kernel_rfl
theorem f4t3 N v1_0 v1_1 v1_2 (K : KT ρ) : f4i N (f4c 5) .n (f4s1 v1_0 v1_1 v1_2) (joinK (some f4l2) K) =
  laws_FnExactGreenSequences.Z3 N v1_0 v1_1 v1_2 (fun v3 v1_0 v1_1 v1_2 => K .nrm (f4s2 v3 v1_0 v1_1 v1_2)) := by kernel_rfl
theorem f4t5 N v3 v1_0 v1_1 v1_2 (K : KT ρ) : f4i N (f4c 11) .n (f4s2 v3 v1_0 v1_1 v1_2) (joinK (some f4l2) K) =
  laws_FnExactGreenSequences.Z5 N v3 v1_0 v1_1 v1_2 (fun v3 v1_0 v1_1 v1_2 => K .nrm (f4s2 v3 v1_0 v1_1 v1_2)) := by kernel_rfl
theorem f4t7 N v3 v1_0 v1_1 v1_2 (K : KT ρ) : f4i N (f4c 23) .n (f4s2 v3 v1_0 v1_1 v1_2) (joinK (some f4l1) K) =
  laws_FnExactGreenSequences.Z7 N v3 v1_0 v1_1 v1_2 (fun v1_0 v1_1 v1_2 => K .nrm (f4s1 v1_0 v1_1 v1_2)) (fun v2 => K .ret (f4s9 v2)) := by kernel_rfl
theorem f4t9 N v1_0 v1_1 v1_2 (K : KT ρ) : f4i N (f4c 47) .n (f4s1 v1_0 v1_1 v1_2) (joinK (some f4l3) K) =
  laws_FnExactGreenSequences.Z9 N v1_0 v1_1 v1_2 (fun v4 v5 v1_0 v1_1 v1_2 => K .nrm (f4s3 v4 v5 v1_0 v1_1 v1_2)) := by kernel_rfl
theorem f4t11 N v4 v5 v1_0 v1_1 v1_2 (K : KT ρ) : f4i N (f4c 95) .n (f4s3 v4 v5 v1_0 v1_1 v1_2) (joinK (some f4l4) K) =
  laws_FnExactGreenSequences.Z11 N v4 v5 v1_0 v1_1 v1_2 (fun v4 v6_2 v5 v1_0 v1_1 v1_2 v6_0 v6_1 => K .nrm (f4s4 v4 v6_2 v5 v1_0 v1_1 v1_2 v6_0 v6_1)) := by kernel_rfl
theorem f4t13 N v4 v6_2 v5 v1_0 v1_1 v1_2 v6_0 v6_1 (K : KT ρ) : f4i N (f4c 191) .n (f4s4 v4 v6_2 v5 v1_0 v1_1 v1_2 v6_0 v6_1) (joinK (some f4l5) K) =
  laws_FnExactGreenSequences.Z13 N v4 v6_2 v5 v1_0 v1_1 v1_2 v6_0 v6_1 (fun v4 v7 v6_2 v5 v8 v1_0 v1_1 v1_2 v6_0 v6_1 => K .nrm (f4s5 v4 v7 v6_2 v5 v8 v1_0 v1_1 v1_2 v6_0 v6_1)) := by kernel_rfl
theorem f4t15 N v4 v7 v6_2 v5 v8 v1_0 v1_1 v1_2 v6_0 v6_1 (K : KT ρ) : f4i N (f4c 383) .n (f4s5 v4 v7 v6_2 v5 v8 v1_0 v1_1 v1_2 v6_0 v6_1) (joinK (some f4l5) K) =
  laws_FnExactGreenSequences.Z15 N v4 v7 v6_2 v5 v8 v1_0 v1_1 v1_2 v6_0 v6_1 (fun v4 v7 v6_2 v5 v8 v1_0 v1_1 v1_2 v6_0 v6_1 => K .nrm (f4s5 v4 v7 v6_2 v5 v8 v1_0 v1_1 v1_2 v6_0 v6_1)) (fun v2 => K .ret (f4s9 v2)) := by kernel_rfl
theorem f4t17 N v4 v7 v6_2 v5 v8 v1_0 v1_1 v1_2 v6_0 v6_1 (K : KT ρ) : f4i N (f4c 767) .n (f4s5 v4 v7 v6_2 v5 v8 v1_0 v1_1 v1_2 v6_0 v6_1) (joinK (some f4l5) K) =
  laws_FnExactGreenSequences.Z17 N v4 v7 v6_2 v5 v8 v1_0 v1_1 v1_2 v6_0 v6_1 (fun v4 v7 v6_2 v5 v8 v1_0 v1_1 v1_2 v6_0 v6_1 => K .nrm (f4s5 v4 v7 v6_2 v5 v8 v1_0 v1_1 v1_2 v6_0 v6_1)) (fun v2 => K .ret (f4s9 v2)) := by kernel_rfl
theorem f4t19 N v4 v7 v6_2 v5 v8 v1_0 v1_1 v1_2 v6_0 v6_1 (K : KT ρ) : f4i N (f4c 1535) .n (f4s5 v4 v7 v6_2 v5 v8 v1_0 v1_1 v1_2 v6_0 v6_1) (joinK (some f4l6) K) =
  laws_FnExactGreenSequences.Z19 N v4 v7 v6_2 v5 v8 v1_0 v1_1 v1_2 v6_0 v6_1 (fun v4 v7 v6_2 v5 v8 v9 v1_0 v1_1 v1_2 v6_0 v6_1 => K .nrm (f4s6 v4 v7 v6_2 v5 v8 v9 v1_0 v1_1 v1_2 v6_0 v6_1)) := by kernel_rfl
theorem f4t21 N v4 v7 v6_2 v5 v8 v9 v1_0 v1_1 v1_2 v6_0 v6_1 (K : KT ρ) : f4i N (f4c 3071) .n (f4s6 v4 v7 v6_2 v5 v8 v9 v1_0 v1_1 v1_2 v6_0 v6_1) (joinK (some f4l7) K) =
  laws_FnExactGreenSequences.Z21 N v4 v7 v6_2 v5 v8 v9 v1_0 v1_1 v1_2 v6_0 v6_1 (fun v4 v7 v5 v8 v9 v1_0 v1_1 v1_2 => K .nrm (f4s7 v4 v7 v5 v8 v9 v1_0 v1_1 v1_2)) := by kernel_rfl
theorem f4t23 N v4 v7 v5 v8 v9 v1_0 v1_1 v1_2 (K : KT ρ) : f4i N (f4c 6143) .n (f4s7 v4 v7 v5 v8 v9 v1_0 v1_1 v1_2) (joinK (some f4l8) K) =
  laws_FnExactGreenSequences.Z23 N v4 v7 v5 v8 v9 v1_0 v1_1 v1_2 (fun v4 v7 v5 v1_0 v1_1 v1_2 => K .nrm (f4s8 v4 v7 v5 v1_0 v1_1 v1_2)) (fun v2 => K .ret (f4s9 v2)) := by kernel_rfl
theorem f4t24 N v4 v7 v5 v1_0 v1_1 v1_2 (K : KT ρ) : f4i N (f4c 8191) .n (f4s8 v4 v7 v5 v1_0 v1_1 v1_2) (joinK (some f4lE) K) =
  laws_FnExactGreenSequences.Z24 N v4 v7 v5 v1_0 v1_1 v1_2 (fun v2 => K .ret (f4s9 v2)) := by kernel_rfl
noncomputable def f4p22 : Plan := .mk (some f4l8) none .n .n
theorem f4t22 N v4 v7 v5 v8 v9 v1_0 v1_1 v1_2 (K : KT ρ) : f4i N (f4c 4095) f4p22 (f4s7 v4 v7 v5 v8 v9 v1_0 v1_1 v1_2) (joinK (some f4lE) K) =
  laws_FnExactGreenSequences.Z22 N v4 v7 v5 v8 v9 v1_0 v1_1 v1_2 (fun v2 => K .ret (f4s9 v2)) :=
 viaSeqS (fun k => laws_FnExactGreenSequences.Z23 N v4 v7 v5 v8 v9 v1_0 v1_1 v1_2 k (fun v2 => K .ret (f4s9 v2))) (by kernel_rfl) (f4t23 N (K := seqK (fun σ => f4i N (f4c 8191) .n σ (joinK (some f4lE) K)) (joinK (some f4lE) K)) ..) (fx6 fun v4 v7 v5 v1_0 v1_1 v1_2 => f4t24 N v4 v7 v5 v1_0 v1_1 v1_2 K) (by kernel_rfl)
noncomputable def f4p20 : Plan := .mk (some f4l7) none .n f4p22
theorem f4t20 N v4 v7 v6_2 v5 v8 v9 v1_0 v1_1 v1_2 v6_0 v6_1 (K : KT ρ) : f4i N (f4c 2047) f4p20 (f4s6 v4 v7 v6_2 v5 v8 v9 v1_0 v1_1 v1_2 v6_0 v6_1) (joinK (some f4lE) K) =
  laws_FnExactGreenSequences.Z20 N v4 v7 v6_2 v5 v8 v9 v1_0 v1_1 v1_2 v6_0 v6_1 (fun v2 => K .ret (f4s9 v2)) :=
 viaSeqS (fun k => laws_FnExactGreenSequences.Z21 N v4 v7 v6_2 v5 v8 v9 v1_0 v1_1 v1_2 v6_0 v6_1 k) (by kernel_rfl) (f4t21 N (K := seqK (fun σ => f4i N (f4c 4095) f4p22 σ (joinK (some f4lE) K)) (joinK (some f4lE) K)) ..) (fx8 fun v4 v7 v5 v8 v9 v1_0 v1_1 v1_2 => f4t22 N v4 v7 v5 v8 v9 v1_0 v1_1 v1_2 K) (by kernel_rfl)
noncomputable def f4p18 : Plan := .mk (some f4l6) none .n f4p20
theorem f4t18 N v4 v7 v6_2 v5 v8 v1_0 v1_1 v1_2 v6_0 v6_1 (K : KT ρ) : f4i N (f4c 1023) f4p18 (f4s5 v4 v7 v6_2 v5 v8 v1_0 v1_1 v1_2 v6_0 v6_1) (joinK (some f4lE) K) =
  laws_FnExactGreenSequences.Z18 N v4 v7 v6_2 v5 v8 v1_0 v1_1 v1_2 v6_0 v6_1 (fun v2 => K .ret (f4s9 v2)) :=
 viaSeqS (fun k => laws_FnExactGreenSequences.Z19 N v4 v7 v6_2 v5 v8 v1_0 v1_1 v1_2 v6_0 v6_1 k) (by kernel_rfl) (f4t19 N (K := seqK (fun σ => f4i N (f4c 2047) f4p20 σ (joinK (some f4lE) K)) (joinK (some f4lE) K)) ..) (fx11 fun v4 v7 v6_2 v5 v8 v9 v1_0 v1_1 v1_2 v6_0 v6_1 => f4t20 N v4 v7 v6_2 v5 v8 v9 v1_0 v1_1 v1_2 v6_0 v6_1 K) (by kernel_rfl)
noncomputable def f4p16 : Plan := .mk (some f4l5) none .n f4p18
theorem f4t16 N v4 v7 v6_2 v5 v8 v1_0 v1_1 v1_2 v6_0 v6_1 (K : KT ρ) : f4i N (f4c 511) f4p16 (f4s5 v4 v7 v6_2 v5 v8 v1_0 v1_1 v1_2 v6_0 v6_1) (joinK (some f4lE) K) =
  laws_FnExactGreenSequences.Z16 N v4 v7 v6_2 v5 v8 v1_0 v1_1 v1_2 v6_0 v6_1 (fun v2 => K .ret (f4s9 v2)) :=
 viaSeqS (fun k => laws_FnExactGreenSequences.Z17 N v4 v7 v6_2 v5 v8 v1_0 v1_1 v1_2 v6_0 v6_1 k (fun v2 => K .ret (f4s9 v2))) (by kernel_rfl) (f4t17 N (K := seqK (fun σ => f4i N (f4c 1023) f4p18 σ (joinK (some f4lE) K)) (joinK (some f4lE) K)) ..) (fx10 fun v4 v7 v6_2 v5 v8 v1_0 v1_1 v1_2 v6_0 v6_1 => f4t18 N v4 v7 v6_2 v5 v8 v1_0 v1_1 v1_2 v6_0 v6_1 K) (by kernel_rfl)
noncomputable def f4p14 : Plan := .mk (some f4l5) none .n f4p16
theorem f4t14 N v4 v7 v6_2 v5 v8 v1_0 v1_1 v1_2 v6_0 v6_1 (K : KT ρ) : f4i N (f4c 255) f4p14 (f4s5 v4 v7 v6_2 v5 v8 v1_0 v1_1 v1_2 v6_0 v6_1) (joinK (some f4lE) K) =
  laws_FnExactGreenSequences.Z14 N v4 v7 v6_2 v5 v8 v1_0 v1_1 v1_2 v6_0 v6_1 (fun v2 => K .ret (f4s9 v2)) :=
 viaSeqS (fun k => laws_FnExactGreenSequences.Z15 N v4 v7 v6_2 v5 v8 v1_0 v1_1 v1_2 v6_0 v6_1 k (fun v2 => K .ret (f4s9 v2))) (by kernel_rfl) (f4t15 N (K := seqK (fun σ => f4i N (f4c 511) f4p16 σ (joinK (some f4lE) K)) (joinK (some f4lE) K)) ..) (fx10 fun v4 v7 v6_2 v5 v8 v1_0 v1_1 v1_2 v6_0 v6_1 => f4t16 N v4 v7 v6_2 v5 v8 v1_0 v1_1 v1_2 v6_0 v6_1 K) (by kernel_rfl)
noncomputable def f4p12 : Plan := .mk (some f4l5) none .n f4p14
theorem f4t12 N v4 v6_2 v5 v1_0 v1_1 v1_2 v6_0 v6_1 (K : KT ρ) : f4i N (f4c 127) f4p12 (f4s4 v4 v6_2 v5 v1_0 v1_1 v1_2 v6_0 v6_1) (joinK (some f4lE) K) =
  laws_FnExactGreenSequences.Z12 N v4 v6_2 v5 v1_0 v1_1 v1_2 v6_0 v6_1 (fun v2 => K .ret (f4s9 v2)) :=
 viaSeqS (fun k => laws_FnExactGreenSequences.Z13 N v4 v6_2 v5 v1_0 v1_1 v1_2 v6_0 v6_1 k) (by kernel_rfl) (f4t13 N (K := seqK (fun σ => f4i N (f4c 255) f4p14 σ (joinK (some f4lE) K)) (joinK (some f4lE) K)) ..) (fx10 fun v4 v7 v6_2 v5 v8 v1_0 v1_1 v1_2 v6_0 v6_1 => f4t14 N v4 v7 v6_2 v5 v8 v1_0 v1_1 v1_2 v6_0 v6_1 K) (by kernel_rfl)
noncomputable def f4p10 : Plan := .mk (some f4l4) none .n f4p12
theorem f4t10 N v4 v5 v1_0 v1_1 v1_2 (K : KT ρ) : f4i N (f4c 63) f4p10 (f4s3 v4 v5 v1_0 v1_1 v1_2) (joinK (some f4lE) K) =
  laws_FnExactGreenSequences.Z10 N v4 v5 v1_0 v1_1 v1_2 (fun v2 => K .ret (f4s9 v2)) :=
 viaSeqS (fun k => laws_FnExactGreenSequences.Z11 N v4 v5 v1_0 v1_1 v1_2 k) (by kernel_rfl) (f4t11 N (K := seqK (fun σ => f4i N (f4c 127) f4p12 σ (joinK (some f4lE) K)) (joinK (some f4lE) K)) ..) (fx8 fun v4 v6_2 v5 v1_0 v1_1 v1_2 v6_0 v6_1 => f4t12 N v4 v6_2 v5 v1_0 v1_1 v1_2 v6_0 v6_1 K) (by kernel_rfl)
noncomputable def f4p8 : Plan := .mk (some f4l3) none .n f4p10
theorem f4t8 N v1_0 v1_1 v1_2 (K : KT ρ) : f4i N (f4c 31) f4p8 (f4s1 v1_0 v1_1 v1_2) (joinK (some f4lE) K) =
  laws_FnExactGreenSequences.Z8 N v1_0 v1_1 v1_2 (fun v2 => K .ret (f4s9 v2)) :=
 viaSeqS (fun k => laws_FnExactGreenSequences.Z9 N v1_0 v1_1 v1_2 k) (by kernel_rfl) (f4t9 N (K := seqK (fun σ => f4i N (f4c 63) f4p10 σ (joinK (some f4lE) K)) (joinK (some f4lE) K)) ..) (fx5 fun v4 v5 v1_0 v1_1 v1_2 => f4t10 N v4 v5 v1_0 v1_1 v1_2 K) (by kernel_rfl)
noncomputable def f4p6 : Plan := .mk (some f4l1) none .n f4p8
theorem f4t6 N v3 v1_0 v1_1 v1_2 (K : KT ρ) : f4i N (f4c 15) f4p6 (f4s2 v3 v1_0 v1_1 v1_2) (joinK (some f4lE) K) =
  laws_FnExactGreenSequences.Z6 N v3 v1_0 v1_1 v1_2 (fun v2 => K .ret (f4s9 v2)) :=
 viaSeqS (fun k => laws_FnExactGreenSequences.Z7 N v3 v1_0 v1_1 v1_2 k (fun v2 => K .ret (f4s9 v2))) (by kernel_rfl) (f4t7 N (K := seqK (fun σ => f4i N (f4c 31) f4p8 σ (joinK (some f4lE) K)) (joinK (some f4lE) K)) ..) (fx3 fun v1_0 v1_1 v1_2 => f4t8 N v1_0 v1_1 v1_2 K) (by kernel_rfl)
noncomputable def f4p4 : Plan := .mk (some f4l2) none .n f4p6
theorem f4t4 N v3 v1_0 v1_1 v1_2 (K : KT ρ) : f4i N (f4c 7) f4p4 (f4s2 v3 v1_0 v1_1 v1_2) (joinK (some f4lE) K) =
  laws_FnExactGreenSequences.Z4 N v3 v1_0 v1_1 v1_2 (fun v2 => K .ret (f4s9 v2)) :=
 viaSeqS (fun k => laws_FnExactGreenSequences.Z5 N v3 v1_0 v1_1 v1_2 k) (by kernel_rfl) (f4t5 N (K := seqK (fun σ => f4i N (f4c 15) f4p6 σ (joinK (some f4lE) K)) (joinK (some f4lE) K)) ..) (fx4 fun v3 v1_0 v1_1 v1_2 => f4t6 N v3 v1_0 v1_1 v1_2 K) (by kernel_rfl)
noncomputable def f4p2 : Plan := .mk (some f4l2) none .n f4p4
theorem f4t2 N v1_0 v1_1 v1_2 (K : KT ρ) : f4i N (f4c 3) f4p2 (f4s1 v1_0 v1_1 v1_2) (joinK (some f4lE) K) =
  laws_FnExactGreenSequences.Z2 N v1_0 v1_1 v1_2 (fun v2 => K .ret (f4s9 v2)) :=
 viaSeqS (fun k => laws_FnExactGreenSequences.Z3 N v1_0 v1_1 v1_2 k) (by kernel_rfl) (f4t3 N (K := seqK (fun σ => f4i N (f4c 7) f4p4 σ (joinK (some f4lE) K)) (joinK (some f4lE) K)) ..) (fx4 fun v3 v1_0 v1_1 v1_2 => f4t4 N v3 v1_0 v1_1 v1_2 K) (by kernel_rfl)
noncomputable def f4p0 : Plan := .mk (some f4l1) none .n f4p2
theorem f4t0 N v0 (K : KT ρ) : f4i N (f4c 1) f4p0 (f4s0 v0) (joinK (some f4lE) K) =
  laws_FnExactGreenSequences.Z0 N v0 (fun v2 => K .ret (f4s9 v2)) :=
 viaSeqS (fun k => laws_FnExactGreenSequences.Z1 N v0 k) (by kernel_rfl) (f4t1 N (K := seqK (fun σ => f4i N (f4c 3) f4p2 σ (joinK (some f4lE) K)) (joinK (some f4lE) K)) ..) (fx3 fun v1_0 v1_1 v1_2 => f4t2 N v1_0 v1_1 v1_2 K) (by kernel_rfl)
theorem f4m (N : Nat) (v0 : MT) : f4i N (f4c 1) f4p0 (f4s0 v0) (joinK (some f4lE) (finK tab f4sig Try.f4.results.toList)) = laws_FnExactGreenSequences.Z0 N v0 (fun v2 => some ((), (v2, ()))) :=
  (f4t0 N v0 (finK tab f4sig Try.f4.results.toList)).trans (by kernel_rfl)
theorem f4ok (h : laws_FnExactGreenSequences.Spec) : EntryOk Try.prog 4 e4 :=
  entry_of_code (sig := f4sig) (c := (f4c 1)) (pl := f4p0) (je := (some f4lE)) (B := f4B) Try.func4 (by kernel_rfl) (by kernel_rfl) (by kernel_rfl) tabOk f4GOk (by kernel_rfl) (by kernel_rfl) (by kernel_rfl) (by kernel_rfl) fun X hb hp => by
    obtain ⟨v0, _⟩ := X
    obtain ⟨N, h⟩ := h v0 hb.1
    exact ⟨N, (f4m N v0).trans (h N (Nat.le_refl N))⟩
theorem e4ok : EntryOk Try.prog 4 e4 := f4ok laws_FnExactGreenSequences.ok
end Go.Fw
