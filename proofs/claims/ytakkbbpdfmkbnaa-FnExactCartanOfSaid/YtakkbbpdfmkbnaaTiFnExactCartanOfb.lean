/- The ties: the program's text comes to the plain functions. Nothing is assumed. -/
import Derived.Test.YtakkbbpdfmkbnaaPuFnExactCartanOfb
import Derived.Test.YtakkbbpdfmkbnaaTiFnExactCartanOfa
import Derived.Test.YtakkbbpdfmkbnaaPuFnExactCartanOfa
set_option linter.unusedVariables false
set_option linter.unusedSimpArgs false
set_option maxRecDepth 100000
namespace Go.Fw
open Go.Proofs
/-! ### loop.example/g03115/impl.CartanOf -/
noncomputable def f35sig : Sig := ⟨[⟨.pair (.int .i64) (.pair (.int .i64) (.sl 3 (.int .i64))), true, false⟩], [⟨.sl 24 (.sl 3 (.int .i64)), false, false⟩]⟩
noncomputable def e35 : Entry := ⟨f35sig, none, fun X => ((), ((impl_CartanOf.g X.1), ()))⟩
noncomputable def f35G : Nat → Option Entry := addG (addG (fun _ => none) 60 e60) 61 e61
theorem f35GOk : GOk Try.prog f35G := ((GOk.nil).add e60ok (by kernel_rfl)).add e61ok (by kernel_rfl)
noncomputable def f35lE : Clean := ⟨[], [], [], [], []⟩
noncomputable def f35s0 (m0 : Int × Int × List Int) : St := initSt f35sig.ps (m0, ())
noncomputable def f35s1 (m1_0 : Int) (m1_1 : Int) (m1_2 : List Int) : St := stOf [(1, .c (.box 1 0))] [(1, (26, [.int .i64 m1_0, .int .i64 m1_1, .sn 3 (.int .i64) m1_2 none]))] []
noncomputable def f35l1 : Clean := ⟨[1], [1], [], [], []⟩
noncomputable def f35s2 (m1_0 : Int) (m1_1 : Int) (m1_2 : List Int) : St := stOf [(1, .c (.box 1 0)), (3, .c (.nil))] [(1, (26, [.int .i64 m1_0, .int .i64 m1_1, .sn 3 (.int .i64) m1_2 none]))] []
noncomputable def f35l2 : Clean := ⟨[1, 3], [1], [], [], []⟩
noncomputable def f35s3 (i4 : Int) (m1_0 : Int) (m1_1 : Int) (m1_2 : List Int) : St := stOf [(1, .c (.box 1 0)), (3, .c (.nil)), (4, .c (.int .i64 i4))] [(1, (26, [.int .i64 m1_0, .int .i64 m1_1, .sn 3 (.int .i64) m1_2 none]))] []
noncomputable def f35l3 : Clean := ⟨[1, 3, 4], [1], [], [], []⟩
noncomputable def f35s8 (out3 : List (List Int)) (i4 : Int) (m1_0 : Int) (m1_1 : Int) (m1_2 : List Int) : St := stOf [(1, .c (.box 1 0)), (3, .c (.own 1000192)), (4, .c (.int .i64 i4))] [(1, (26, [.int .i64 m1_0, .int .i64 m1_1, .sn 3 (.int .i64) m1_2 none]))] [(1000192, (⟨24, .sl 3 (.int .i64), out3, true, false⟩ : Row))]
noncomputable def f35l8 : Clean := ⟨[1, 3, 4], [1], [], [], [(⟨false, 3, 0⟩, 1000192)]⟩
noncomputable def f35s9 (out3 : List (List Int)) (i4 : Int) (m1_0 : Int) (m1_1 : Int) (m1_2 : List Int) : St := stOf [(1, .c (.box 1 0)), (3, .c (.own 1000192)), (4, .c (.int .i64 i4))] [(1, (26, [.int .i64 m1_0, .int .i64 m1_1, .sn 3 (.int .i64) m1_2 none]))] [(1000192, (⟨24, .sl 3 (.int .i64), out3, true, false⟩ : Row))]
noncomputable def f35l9 : Clean := ⟨[1, 3, 4], [1], [⟨⟨false, 3, 0⟩, 30000000, 24, .sl 3 (.int .i64), true⟩], [], [(⟨false, 3, 0⟩, 1000192)]⟩
noncomputable def f35s10 (out3 : List (List Int)) (i4 : Int) (m1_0 : Int) (m1_1 : Int) (m1_2 : List Int) : St := stOf [(1, .c (.box 1 0)), (3, .c (.own 1000192)), (4, .c (.int .i64 i4)), (5, .c (.nil))] [(1, (26, [.int .i64 m1_0, .int .i64 m1_1, .sn 3 (.int .i64) m1_2 none]))] [(1000192, (⟨24, .sl 3 (.int .i64), out3, true, false⟩ : Row))]
noncomputable def f35l10 : Clean := ⟨[1, 3, 4, 5], [1], [], [], [(⟨false, 3, 0⟩, 1000192)]⟩
noncomputable def f35s11 (out3 : List (List Int)) (i4 : Int) (j6 : Int) (m1_0 : Int) (m1_1 : Int) (m1_2 : List Int) : St := stOf [(1, .c (.box 1 0)), (3, .c (.own 1000192)), (4, .c (.int .i64 i4)), (5, .c (.nil)), (6, .c (.int .i64 j6))] [(1, (26, [.int .i64 m1_0, .int .i64 m1_1, .sn 3 (.int .i64) m1_2 none]))] [(1000192, (⟨24, .sl 3 (.int .i64), out3, true, false⟩ : Row))]
noncomputable def f35l11 : Clean := ⟨[1, 3, 4, 5, 6], [1], [], [], [(⟨false, 3, 0⟩, 1000192)]⟩
noncomputable def f35s12 (out3 : List (List Int)) (row5 : List Int) (i4 : Int) (j6 : Int) (m1_0 : Int) (m1_1 : Int) (m1_2 : List Int) : St := stOf [(1, .c (.box 1 0)), (3, .c (.own 1000192)), (4, .c (.int .i64 i4)), (5, .c (.own 1000320)), (6, .c (.int .i64 j6))] [(1, (26, [.int .i64 m1_0, .int .i64 m1_1, .sn 3 (.int .i64) m1_2 none]))] [(1000192, (⟨24, .sl 3 (.int .i64), out3, true, false⟩ : Row)), (1000320, (⟨3, .int .i64, row5, true, false⟩ : Row))]
noncomputable def f35l12 : Clean := ⟨[1, 3, 4, 5, 6], [1], [⟨⟨false, 5, 0⟩, 30000000, 3, .int .i64, true⟩], [], [(⟨false, 3, 0⟩, 1000192), (⟨false, 5, 0⟩, 1000320)]⟩
noncomputable def f35s13 (out3 : List (List Int)) (row5 : List Int) (i4 : Int) (m1_0 : Int) (m1_1 : Int) (m1_2 : List Int) : St := stOf [(1, .c (.box 1 0)), (3, .c (.own 1000192)), (4, .c (.int .i64 i4)), (5, .c (.own 1000320))] [(1, (26, [.int .i64 m1_0, .int .i64 m1_1, .sn 3 (.int .i64) m1_2 none]))] [(1000192, (⟨24, .sl 3 (.int .i64), out3, true, false⟩ : Row)), (1000320, (⟨3, .int .i64, row5, true, false⟩ : Row))]
noncomputable def f35l13 : Clean := ⟨[1, 3, 4, 5], [1], [], [], [(⟨false, 3, 0⟩, 1000192), (⟨false, 5, 0⟩, 1000320)]⟩
noncomputable def f35s14 (out3 : List (List Int)) : St := stOf [(3, .c (.own 1000192))] [] [(1000192, (⟨24, .sl 3 (.int .i64), out3, true, false⟩ : Row))]
noncomputable def f35l14 : Clean := ⟨[3], [], [], [], [(⟨false, 3, 0⟩, 1000192)]⟩
noncomputable def f35s15 (t2 : List (List Int)) : St := stOf [(2, .c (.own 1000128))] [] [(1000128, (⟨24, .sl 3 (.int .i64), t2, true, false⟩ : Row))]
noncomputable def f35l15 : Clean := ⟨[2], [], [⟨⟨false, 2, 0⟩, 30000000, 24, .sl 3 (.int .i64), true⟩], [], [(⟨false, 2, 0⟩, 1000128)]⟩
noncomputable def f35B : Nat → Option Clean := lookL [(2, f35l13), (1, f35l8), (0, f35l14), (1000000, f35l15)]
noncomputable abbrev f35i {ρ : Type} (N : Nat) (c : Code) (p : Plan) (σ : St) (K : KT ρ) : Option ρ := iCode f35G tab f35B N c p σ K
noncomputable def f35c1 := codeAt (bodyOf Try.f35) [0]
theorem f35t1 {ρ : Type} (N : Nat) (m0 : Int × Int × List Int) (K : KT ρ) : f35i N f35c1 .n (f35s0 m0) (joinK (some f35l1) K) =
  impl_CartanOf.Z1 N m0 (fun m1_0 m1_1 m1_2 => K .nrm (f35s1 m1_0 m1_1 m1_2)) := by kernel_rfl
noncomputable def f35c3 := codeAt (bodyOf Try.f35) [1,0]
theorem f35t3 {ρ : Type} (N : Nat) (m1_0 : Int) (m1_1 : Int) (m1_2 : List Int) (K : KT ρ) : f35i N f35c3 .n (f35s1 m1_0 m1_1 m1_2) (joinK (some f35l1) K) =
  impl_CartanOf.Z3 N m1_0 m1_1 m1_2 (fun m1_0 m1_1 m1_2 => K .nrm (f35s1 m1_0 m1_1 m1_2)) (fun t2 => K .ret (f35s15 t2)) := by kernel_rfl
noncomputable def f35c5 := codeAt (bodyOf Try.f35) [1,1,0]
theorem f35t5 {ρ : Type} (N : Nat) (m1_0 : Int) (m1_1 : Int) (m1_2 : List Int) (K : KT ρ) : f35i N f35c5 .n (f35s1 m1_0 m1_1 m1_2) (joinK (some f35l2) K) =
  impl_CartanOf.Z5 N m1_0 m1_1 m1_2 (fun m1_0 m1_1 m1_2 => K .nrm (f35s2 m1_0 m1_1 m1_2)) := by kernel_rfl
noncomputable def f35c8 := codeAt (bodyOf Try.f35) [1,1,1,0,0]
theorem f35t8 {ρ : Type} (N : Nat) (m1_0 : Int) (m1_1 : Int) (m1_2 : List Int) (K : KT ρ) : f35i N f35c8 .n (f35s2 m1_0 m1_1 m1_2) (joinK (some f35l3) K) =
  impl_CartanOf.Z8 N m1_0 m1_1 m1_2 (fun i4 m1_0 m1_1 m1_2 => K .nrm (f35s3 i4 m1_0 m1_1 m1_2)) := by kernel_rfl
noncomputable def f35c12 := codeAt (bodyOf Try.f35) [1,1,1,0,1,0,0,0]
theorem f35t12 {ρ : Type} (N : Nat) (out3 : List (List Int)) (i4 : Int) (m1_0 : Int) (m1_1 : Int) (m1_2 : List Int) (K : KT ρ) : f35i N f35c12 .n (f35s9 out3 i4 m1_0 m1_1 m1_2) (joinK (some f35l8) K) =
  impl_CartanOf.Z12 N out3 i4 m1_0 m1_1 m1_2 (fun out3 i4 m1_0 m1_1 m1_2 => K .nrm (f35s8 out3 i4 m1_0 m1_1 m1_2)) (fun out3 => K (.exit 0) (f35s14 out3)) := by kernel_rfl
noncomputable def f35c16 := codeAt (bodyOf Try.f35) [1,1,1,0,1,0,0,1,0,0,0]
theorem f35t16 {ρ : Type} (N : Nat) (out3 : List (List Int)) (i4 : Int) (m1_0 : Int) (m1_1 : Int) (m1_2 : List Int) (K : KT ρ) : f35i N f35c16 .n (f35s8 out3 i4 m1_0 m1_1 m1_2) (joinK (some f35l10) K) =
  impl_CartanOf.Z16 N out3 i4 m1_0 m1_1 m1_2 (fun out3 i4 m1_0 m1_1 m1_2 => K .nrm (f35s10 out3 i4 m1_0 m1_1 m1_2)) := by kernel_rfl
noncomputable def f35c19 := codeAt (bodyOf Try.f35) [1,1,1,0,1,0,0,1,0,0,1,0,0]
theorem f35t19 {ρ : Type} (N : Nat) (out3 : List (List Int)) (i4 : Int) (m1_0 : Int) (m1_1 : Int) (m1_2 : List Int) (K : KT ρ) : f35i N f35c19 .n (f35s10 out3 i4 m1_0 m1_1 m1_2) (joinK (some f35l11) K) =
  impl_CartanOf.Z19 N out3 i4 m1_0 m1_1 m1_2 (fun out3 i4 j6 m1_0 m1_1 m1_2 => K .nrm (f35s11 out3 i4 j6 m1_0 m1_1 m1_2)) := by kernel_rfl
noncomputable def f35c22 := codeAt (bodyOf Try.f35) [1,1,1,0,1,0,0,1,0,0,1,0,1,0,0]
theorem f35t22 {ρ : Type} (N : Nat) (out3 : List (List Int)) (row5 : List Int) (i4 : Int) (j6 : Int) (m1_0 : Int) (m1_1 : Int) (m1_2 : List Int) (K : KT ρ) : f35i N f35c22 .n (f35s12 out3 row5 i4 j6 m1_0 m1_1 m1_2) (joinK (some f35l12) K) =
  impl_CartanOf.Z22 N out3 row5 i4 j6 m1_0 m1_1 m1_2 (fun out3 row5 i4 j6 m1_0 m1_1 m1_2 => K .nrm (f35s12 out3 row5 i4 j6 m1_0 m1_1 m1_2)) (fun out3 row5 i4 m1_0 m1_1 m1_2 => K (.exit 2) (f35s13 out3 row5 i4 m1_0 m1_1 m1_2)) := by kernel_rfl
noncomputable def f35c21 := codeAt (bodyOf Try.f35) [1,1,1,0,1,0,0,1,0,0,1,0,1,0]
noncomputable def f35p21 : Plan := .mk none (some f35l12) .n .n
noncomputable abbrev f35w21 {ρ : Type} (N : Nat) (M : Nat) (σ : St) (K : KT ρ) : Option ρ := loopC (fun σ K => f35i N f35c22 .n σ K) f35l12 M σ K
theorem f35t21L {ρ : Type} (N : Nat) (K : KT ρ) : ∀ (M : Nat) (out3 : List (List Int)) (row5 : List Int) (i4 : Int) (j6 : Int) (m1_0 : Int) (m1_1 : Int) (m1_2 : List Int), f35w21 N M (f35s12 out3 row5 i4 j6 m1_0 m1_1 m1_2) K =
  impl_CartanOf.Z21L N (fun out3 row5 i4 m1_0 m1_1 m1_2 => K (.exit 2) (f35s13 out3 row5 i4 m1_0 m1_1 m1_2)) M out3 row5 i4 j6 m1_0 m1_1 m1_2
  | 0, _, _, _, _, _, _, _ => rfl
  | M + 1, out3, row5, i4, j6, m1_0, m1_1, m1_2 => viaRound (fun k => impl_CartanOf.Z22 N out3 row5 i4 j6 m1_0 m1_1 m1_2 k (fun out3 row5 i4 m1_0 m1_1 m1_2 => K (.exit 2) (f35s13 out3 row5 i4 m1_0 m1_1 m1_2))) (f35t22 N out3 row5 i4 j6 m1_0 m1_1 m1_2 (seqK (fun σ => f35w21 N M σ K) K)) (funext fun out3 => funext fun row5 => funext fun i4 => funext fun j6 => funext fun m1_0 => funext fun m1_1 => funext fun m1_2 => f35t21L N K M out3 row5 i4 j6 m1_0 m1_1 m1_2) (by kernel_rfl) (by kernel_rfl)
theorem f35t21 {ρ : Type} (N : Nat) (out3 : List (List Int)) (i4 : Int) (j6 : Int) (m1_0 : Int) (m1_1 : Int) (m1_2 : List Int) (K : KT ρ) : f35i N f35c21 f35p21 (f35s11 out3 i4 j6 m1_0 m1_1 m1_2) (joinK (some f35l13) K) =
  impl_CartanOf.Z21 N out3 i4 j6 m1_0 m1_1 m1_2 (fun out3 row5 i4 m1_0 m1_1 m1_2 => K (.exit 2) (f35s13 out3 row5 i4 m1_0 m1_1 m1_2)) :=
  viaLoop (by kernel_rfl) (by kernel_rfl) (σ' := f35s12 out3 ([] : List Int) i4 j6 m1_0 m1_1 m1_2) (by kernel_rfl) (f35t21L N (joinK (some f35l13) K) N out3 ([] : List Int) i4 j6 m1_0 m1_1 m1_2) (by kernel_rfl)
noncomputable def f35c20 := codeAt (bodyOf Try.f35) [1,1,1,0,1,0,0,1,0,0,1,0,1]
noncomputable def f35p20 : Plan := .mk (some f35l13) none f35p21 .n
theorem f35t20 {ρ : Type} (N : Nat) (out3 : List (List Int)) (i4 : Int) (j6 : Int) (m1_0 : Int) (m1_1 : Int) (m1_2 : List Int) (K : KT ρ) : f35i N f35c20 f35p20 (f35s11 out3 i4 j6 m1_0 m1_1 m1_2) (joinK (some f35l13) K) =
  impl_CartanOf.Z20 N out3 i4 j6 m1_0 m1_1 m1_2 (fun out3 row5 i4 m1_0 m1_1 m1_2 => K .nrm (f35s13 out3 row5 i4 m1_0 m1_1 m1_2)) :=
  viaBlock (by kernel_rfl) (by kernel_rfl) (f35t21 N out3 i4 j6 m1_0 m1_1 m1_2 (blockK 2 (joinK (some f35l13) K))) (by kernel_rfl)
noncomputable def f35c18 := codeAt (bodyOf Try.f35) [1,1,1,0,1,0,0,1,0,0,1,0]
noncomputable def f35p18 : Plan := .mk (some f35l11) none .n f35p20
theorem f35t18 {ρ : Type} (N : Nat) (out3 : List (List Int)) (i4 : Int) (m1_0 : Int) (m1_1 : Int) (m1_2 : List Int) (K : KT ρ) : f35i N f35c18 f35p18 (f35s10 out3 i4 m1_0 m1_1 m1_2) (joinK (some f35l13) K) =
  impl_CartanOf.Z18 N out3 i4 m1_0 m1_1 m1_2 (fun out3 row5 i4 m1_0 m1_1 m1_2 => K .nrm (f35s13 out3 row5 i4 m1_0 m1_1 m1_2)) :=
  viaSeq (fun k => impl_CartanOf.Z19 N out3 i4 m1_0 m1_1 m1_2 k) (by kernel_rfl) (by kernel_rfl) (f35t19 N out3 i4 m1_0 m1_1 m1_2 (seqK (fun σ => f35i N f35c20 f35p20 σ (joinK (some f35l13) K)) (joinK (some f35l13) K))) (funext fun out3 => funext fun i4 => funext fun j6 => funext fun m1_0 => funext fun m1_1 => funext fun m1_2 => f35t20 N out3 i4 j6 m1_0 m1_1 m1_2 K) (by kernel_rfl) (by kernel_rfl)
noncomputable def f35c23 := codeAt (bodyOf Try.f35) [1,1,1,0,1,0,0,1,0,0,1,1]
theorem f35t23 {ρ : Type} (N : Nat) (out3 : List (List Int)) (row5 : List Int) (i4 : Int) (m1_0 : Int) (m1_1 : Int) (m1_2 : List Int) (K : KT ρ) : f35i N f35c23 .n (f35s13 out3 row5 i4 m1_0 m1_1 m1_2) (joinK (some f35l8) K) =
  impl_CartanOf.Z23 N out3 row5 i4 m1_0 m1_1 m1_2 (fun out3 i4 m1_0 m1_1 m1_2 => K .nrm (f35s8 out3 i4 m1_0 m1_1 m1_2)) := by kernel_rfl
noncomputable def f35c17 := codeAt (bodyOf Try.f35) [1,1,1,0,1,0,0,1,0,0,1]
noncomputable def f35p17 : Plan := .mk (some f35l13) none f35p18 .n
theorem f35t17 {ρ : Type} (N : Nat) (out3 : List (List Int)) (i4 : Int) (m1_0 : Int) (m1_1 : Int) (m1_2 : List Int) (K : KT ρ) : f35i N f35c17 f35p17 (f35s10 out3 i4 m1_0 m1_1 m1_2) (joinK (some f35l8) K) =
  impl_CartanOf.Z17 N out3 i4 m1_0 m1_1 m1_2 (fun out3 i4 m1_0 m1_1 m1_2 => K .nrm (f35s8 out3 i4 m1_0 m1_1 m1_2)) :=
  viaSeq (fun k => impl_CartanOf.Z18 N out3 i4 m1_0 m1_1 m1_2 k) (by kernel_rfl) (by kernel_rfl) (f35t18 N out3 i4 m1_0 m1_1 m1_2 (seqK (fun σ => f35i N f35c23 .n σ (joinK (some f35l8) K)) (joinK (some f35l8) K))) (funext fun out3 => funext fun row5 => funext fun i4 => funext fun m1_0 => funext fun m1_1 => funext fun m1_2 => f35t23 N out3 row5 i4 m1_0 m1_1 m1_2 K) (by kernel_rfl) (by kernel_rfl)
noncomputable def f35c15 := codeAt (bodyOf Try.f35) [1,1,1,0,1,0,0,1,0,0]
noncomputable def f35p15 : Plan := .mk (some f35l10) none .n f35p17
theorem f35t15 {ρ : Type} (N : Nat) (out3 : List (List Int)) (i4 : Int) (m1_0 : Int) (m1_1 : Int) (m1_2 : List Int) (K : KT ρ) : f35i N f35c15 f35p15 (f35s8 out3 i4 m1_0 m1_1 m1_2) (joinK (some f35l8) K) =
  impl_CartanOf.Z15 N out3 i4 m1_0 m1_1 m1_2 (fun out3 i4 m1_0 m1_1 m1_2 => K .nrm (f35s8 out3 i4 m1_0 m1_1 m1_2)) :=
  viaSeq (fun k => impl_CartanOf.Z16 N out3 i4 m1_0 m1_1 m1_2 k) (by kernel_rfl) (by kernel_rfl) (f35t16 N out3 i4 m1_0 m1_1 m1_2 (seqK (fun σ => f35i N f35c17 f35p17 σ (joinK (some f35l8) K)) (joinK (some f35l8) K))) (funext fun out3 => funext fun i4 => funext fun m1_0 => funext fun m1_1 => funext fun m1_2 => f35t17 N out3 i4 m1_0 m1_1 m1_2 K) (by kernel_rfl) (by kernel_rfl)
noncomputable def f35c14 := codeAt (bodyOf Try.f35) [1,1,1,0,1,0,0,1,0]
noncomputable def f35p14 : Plan := .mk (some f35l8) none f35p15 .n
theorem f35t14 {ρ : Type} (N : Nat) (out3 : List (List Int)) (i4 : Int) (m1_0 : Int) (m1_1 : Int) (m1_2 : List Int) (K : KT ρ) : f35i N f35c14 f35p14 (f35s8 out3 i4 m1_0 m1_1 m1_2) (joinK (some f35l8) K) =
  impl_CartanOf.Z14 N out3 i4 m1_0 m1_1 m1_2 (fun out3 i4 m1_0 m1_1 m1_2 => K .nrm (f35s8 out3 i4 m1_0 m1_1 m1_2)) :=
  viaBlock (by kernel_rfl) (by kernel_rfl) (f35t15 N out3 i4 m1_0 m1_1 m1_2 (blockK 1 (joinK (some f35l8) K))) (by kernel_rfl)
noncomputable def f35c24 := codeAt (bodyOf Try.f35) [1,1,1,0,1,0,0,1,1]
theorem f35t24 {ρ : Type} (N : Nat) (out3 : List (List Int)) (i4 : Int) (m1_0 : Int) (m1_1 : Int) (m1_2 : List Int) (K : KT ρ) : f35i N f35c24 .n (f35s8 out3 i4 m1_0 m1_1 m1_2) (joinK (some f35l9) K) =
  impl_CartanOf.Z24 N out3 i4 m1_0 m1_1 m1_2 (fun out3 i4 m1_0 m1_1 m1_2 => K .nrm (f35s9 out3 i4 m1_0 m1_1 m1_2)) := by kernel_rfl
noncomputable def f35c13 := codeAt (bodyOf Try.f35) [1,1,1,0,1,0,0,1]
noncomputable def f35p13 : Plan := .mk (some f35l8) none f35p14 .n
theorem f35t13 {ρ : Type} (N : Nat) (out3 : List (List Int)) (i4 : Int) (m1_0 : Int) (m1_1 : Int) (m1_2 : List Int) (K : KT ρ) : f35i N f35c13 f35p13 (f35s8 out3 i4 m1_0 m1_1 m1_2) (joinK (some f35l9) K) =
  impl_CartanOf.Z13 N out3 i4 m1_0 m1_1 m1_2 (fun out3 i4 m1_0 m1_1 m1_2 => K .nrm (f35s9 out3 i4 m1_0 m1_1 m1_2)) :=
  viaSeq (fun k => impl_CartanOf.Z14 N out3 i4 m1_0 m1_1 m1_2 k) (by kernel_rfl) (by kernel_rfl) (f35t14 N out3 i4 m1_0 m1_1 m1_2 (seqK (fun σ => f35i N f35c24 .n σ (joinK (some f35l9) K)) (joinK (some f35l9) K))) (funext fun out3 => funext fun i4 => funext fun m1_0 => funext fun m1_1 => funext fun m1_2 => f35t24 N out3 i4 m1_0 m1_1 m1_2 K) (by kernel_rfl) (by kernel_rfl)
noncomputable def f35c11 := codeAt (bodyOf Try.f35) [1,1,1,0,1,0,0]
noncomputable def f35p11 : Plan := .mk (some f35l8) none .n f35p13
theorem f35t11 {ρ : Type} (N : Nat) (out3 : List (List Int)) (i4 : Int) (m1_0 : Int) (m1_1 : Int) (m1_2 : List Int) (K : KT ρ) : f35i N f35c11 f35p11 (f35s9 out3 i4 m1_0 m1_1 m1_2) (joinK (some f35l9) K) =
  impl_CartanOf.Z11 N out3 i4 m1_0 m1_1 m1_2 (fun out3 i4 m1_0 m1_1 m1_2 => K .nrm (f35s9 out3 i4 m1_0 m1_1 m1_2)) (fun out3 => K (.exit 0) (f35s14 out3)) :=
  viaSeq (fun k => impl_CartanOf.Z12 N out3 i4 m1_0 m1_1 m1_2 k (fun out3 => K (.exit 0) (f35s14 out3))) (by kernel_rfl) (by kernel_rfl) (f35t12 N out3 i4 m1_0 m1_1 m1_2 (seqK (fun σ => f35i N f35c13 f35p13 σ (joinK (some f35l9) K)) (joinK (some f35l9) K))) (funext fun out3 => funext fun i4 => funext fun m1_0 => funext fun m1_1 => funext fun m1_2 => f35t13 N out3 i4 m1_0 m1_1 m1_2 K) (by kernel_rfl) (by kernel_rfl)
noncomputable def f35c10 := codeAt (bodyOf Try.f35) [1,1,1,0,1,0]
noncomputable def f35p10 : Plan := .mk none (some f35l9) f35p11 .n
noncomputable abbrev f35w10 {ρ : Type} (N : Nat) (M : Nat) (σ : St) (K : KT ρ) : Option ρ := loopC (fun σ K => f35i N f35c11 f35p11 σ K) f35l9 M σ K
theorem f35t10L {ρ : Type} (N : Nat) (K : KT ρ) : ∀ (M : Nat) (out3 : List (List Int)) (i4 : Int) (m1_0 : Int) (m1_1 : Int) (m1_2 : List Int), f35w10 N M (f35s9 out3 i4 m1_0 m1_1 m1_2) K =
  impl_CartanOf.Z10L N (fun out3 => K (.exit 0) (f35s14 out3)) M out3 i4 m1_0 m1_1 m1_2
  | 0, _, _, _, _, _ => rfl
  | M + 1, out3, i4, m1_0, m1_1, m1_2 => viaRound (fun k => impl_CartanOf.Z11 N out3 i4 m1_0 m1_1 m1_2 k (fun out3 => K (.exit 0) (f35s14 out3))) (f35t11 N out3 i4 m1_0 m1_1 m1_2 (seqK (fun σ => f35w10 N M σ K) K)) (funext fun out3 => funext fun i4 => funext fun m1_0 => funext fun m1_1 => funext fun m1_2 => f35t10L N K M out3 i4 m1_0 m1_1 m1_2) (by kernel_rfl) (by kernel_rfl)
theorem f35t10 {ρ : Type} (N : Nat) (i4 : Int) (m1_0 : Int) (m1_1 : Int) (m1_2 : List Int) (K : KT ρ) : f35i N f35c10 f35p10 (f35s3 i4 m1_0 m1_1 m1_2) (joinK (some f35l14) K) =
  impl_CartanOf.Z10 N i4 m1_0 m1_1 m1_2 (fun out3 => K (.exit 0) (f35s14 out3)) :=
  viaLoop (by kernel_rfl) (by kernel_rfl) (σ' := f35s9 ([] : List (List Int)) i4 m1_0 m1_1 m1_2) (by kernel_rfl) (f35t10L N (joinK (some f35l14) K) N ([] : List (List Int)) i4 m1_0 m1_1 m1_2) (by kernel_rfl)
noncomputable def f35c9 := codeAt (bodyOf Try.f35) [1,1,1,0,1]
noncomputable def f35p9 : Plan := .mk (some f35l14) none f35p10 .n
theorem f35t9 {ρ : Type} (N : Nat) (i4 : Int) (m1_0 : Int) (m1_1 : Int) (m1_2 : List Int) (K : KT ρ) : f35i N f35c9 f35p9 (f35s3 i4 m1_0 m1_1 m1_2) (joinK (some f35l14) K) =
  impl_CartanOf.Z9 N i4 m1_0 m1_1 m1_2 (fun out3 => K .nrm (f35s14 out3)) :=
  viaBlock (by kernel_rfl) (by kernel_rfl) (f35t10 N i4 m1_0 m1_1 m1_2 (blockK 0 (joinK (some f35l14) K))) (by kernel_rfl)
noncomputable def f35c7 := codeAt (bodyOf Try.f35) [1,1,1,0]
noncomputable def f35p7 : Plan := .mk (some f35l3) none .n f35p9
theorem f35t7 {ρ : Type} (N : Nat) (m1_0 : Int) (m1_1 : Int) (m1_2 : List Int) (K : KT ρ) : f35i N f35c7 f35p7 (f35s2 m1_0 m1_1 m1_2) (joinK (some f35l14) K) =
  impl_CartanOf.Z7 N m1_0 m1_1 m1_2 (fun out3 => K .nrm (f35s14 out3)) :=
  viaSeq (fun k => impl_CartanOf.Z8 N m1_0 m1_1 m1_2 k) (by kernel_rfl) (by kernel_rfl) (f35t8 N m1_0 m1_1 m1_2 (seqK (fun σ => f35i N f35c9 f35p9 σ (joinK (some f35l14) K)) (joinK (some f35l14) K))) (funext fun i4 => funext fun m1_0 => funext fun m1_1 => funext fun m1_2 => f35t9 N i4 m1_0 m1_1 m1_2 K) (by kernel_rfl) (by kernel_rfl)
noncomputable def f35c25 := codeAt (bodyOf Try.f35) [1,1,1,1]
theorem f35t25 {ρ : Type} (N : Nat) (out3 : List (List Int)) (K : KT ρ) : f35i N f35c25 .n (f35s14 out3) (joinK (some f35lE) K) =
  impl_CartanOf.Z25 N out3 (fun t2 => K .ret (f35s15 t2)) := by kernel_rfl
noncomputable def f35c6 := codeAt (bodyOf Try.f35) [1,1,1]
noncomputable def f35p6 : Plan := .mk (some f35l14) none f35p7 .n
theorem f35t6 {ρ : Type} (N : Nat) (m1_0 : Int) (m1_1 : Int) (m1_2 : List Int) (K : KT ρ) : f35i N f35c6 f35p6 (f35s2 m1_0 m1_1 m1_2) (joinK (some f35lE) K) =
  impl_CartanOf.Z6 N m1_0 m1_1 m1_2 (fun t2 => K .ret (f35s15 t2)) :=
  viaSeq (fun k => impl_CartanOf.Z7 N m1_0 m1_1 m1_2 k) (by kernel_rfl) (by kernel_rfl) (f35t7 N m1_0 m1_1 m1_2 (seqK (fun σ => f35i N f35c25 .n σ (joinK (some f35lE) K)) (joinK (some f35lE) K))) (funext fun out3 => f35t25 N out3 K) (by kernel_rfl) (by kernel_rfl)
noncomputable def f35c4 := codeAt (bodyOf Try.f35) [1,1]
noncomputable def f35p4 : Plan := .mk (some f35l2) none .n f35p6
theorem f35t4 {ρ : Type} (N : Nat) (m1_0 : Int) (m1_1 : Int) (m1_2 : List Int) (K : KT ρ) : f35i N f35c4 f35p4 (f35s1 m1_0 m1_1 m1_2) (joinK (some f35lE) K) =
  impl_CartanOf.Z4 N m1_0 m1_1 m1_2 (fun t2 => K .ret (f35s15 t2)) :=
  viaSeq (fun k => impl_CartanOf.Z5 N m1_0 m1_1 m1_2 k) (by kernel_rfl) (by kernel_rfl) (f35t5 N m1_0 m1_1 m1_2 (seqK (fun σ => f35i N f35c6 f35p6 σ (joinK (some f35lE) K)) (joinK (some f35lE) K))) (funext fun m1_0 => funext fun m1_1 => funext fun m1_2 => f35t6 N m1_0 m1_1 m1_2 K) (by kernel_rfl) (by kernel_rfl)
noncomputable def f35c2 := codeAt (bodyOf Try.f35) [1]
noncomputable def f35p2 : Plan := .mk (some f35l1) none .n f35p4
theorem f35t2 {ρ : Type} (N : Nat) (m1_0 : Int) (m1_1 : Int) (m1_2 : List Int) (K : KT ρ) : f35i N f35c2 f35p2 (f35s1 m1_0 m1_1 m1_2) (joinK (some f35lE) K) =
  impl_CartanOf.Z2 N m1_0 m1_1 m1_2 (fun t2 => K .ret (f35s15 t2)) :=
  viaSeq (fun k => impl_CartanOf.Z3 N m1_0 m1_1 m1_2 k (fun t2 => K .ret (f35s15 t2))) (by kernel_rfl) (by kernel_rfl) (f35t3 N m1_0 m1_1 m1_2 (seqK (fun σ => f35i N f35c4 f35p4 σ (joinK (some f35lE) K)) (joinK (some f35lE) K))) (funext fun m1_0 => funext fun m1_1 => funext fun m1_2 => f35t4 N m1_0 m1_1 m1_2 K) (by kernel_rfl) (by kernel_rfl)
noncomputable def f35c0 := codeAt (bodyOf Try.f35) []
noncomputable def f35p0 : Plan := .mk (some f35l1) none .n f35p2
theorem f35t0 {ρ : Type} (N : Nat) (m0 : Int × Int × List Int) (K : KT ρ) : f35i N f35c0 f35p0 (f35s0 m0) (joinK (some f35lE) K) =
  impl_CartanOf.Z0 N m0 (fun t2 => K .ret (f35s15 t2)) :=
  viaSeq (fun k => impl_CartanOf.Z1 N m0 k) (by kernel_rfl) (by kernel_rfl) (f35t1 N m0 (seqK (fun σ => f35i N f35c2 f35p2 σ (joinK (some f35lE) K)) (joinK (some f35lE) K))) (funext fun m1_0 => funext fun m1_1 => funext fun m1_2 => f35t2 N m1_0 m1_1 m1_2 K) (by kernel_rfl) (by kernel_rfl)
theorem f35m (N : Nat) (m0 : Int × Int × List Int) : f35i N f35c0 f35p0 (f35s0 m0) (joinK (some f35lE) (finK tab f35sig Try.f35.results.toList)) = impl_CartanOf.Z0 N m0 (fun t2 => some ((), (t2, ()))) :=
  (f35t0 N m0 (finK tab f35sig Try.f35.results.toList)).trans (by kernel_rfl)
theorem f35ok (h : impl_CartanOf.Spec) : EntryOk Try.prog 35 e35 :=
  entry_of_code (sig := f35sig) (c := f35c0) (pl := f35p0) (je := (some f35lE)) (B := f35B) Try.func35 (by kernel_rfl) (by kernel_rfl) (by kernel_rfl) tabOk f35GOk (by kernel_rfl) (by kernel_rfl) (by kernel_rfl) (by kernel_rfl) fun X hb hp => by
    obtain ⟨m0, _⟩ := X
    obtain ⟨N, h⟩ := h m0 hb.1
    exact ⟨N, (f35m N m0).trans (h N (Nat.le_refl N))⟩
theorem e35ok : EntryOk Try.prog 35 e35 := f35ok impl_CartanOf.ok
end Go.Fw
set_option linter.unusedVariables false
set_option linter.unusedSimpArgs false
set_option maxRecDepth 100000
namespace Go.Fw
open Go.Proofs
/-! ### loop.example/g03115/laws.eqIntS -/
noncomputable def f44sig : Sig := ⟨[⟨.sl 3 (.int .i64), false, false⟩, ⟨.sl 3 (.int .i64), false, false⟩], [⟨.bool, false, false⟩]⟩
noncomputable def e44 : Entry := ⟨f44sig, none, fun X => ((), ((laws_eqIntS.g X.1 X.2.1), ()))⟩
noncomputable def f44G : Nat → Option Entry := (fun _ => none)
theorem f44GOk : GOk Try.prog f44G := GOk.nil
noncomputable def f44lE : Clean := ⟨[], [], [], [], []⟩
noncomputable def f44s0 (a0 : List Int) (b1 : List Int) : St := initSt f44sig.ps (a0, (b1, ()))
noncomputable def f44s1 (a0 : List Int) (b1 : List Int) : St := stOf [(0, .c (.sn 3 (.int .i64) a0 none)), (1, .c (.sn 3 (.int .i64) b1 none))] [] []
noncomputable def f44l1 : Clean := ⟨[0, 1], [], [], [], []⟩
noncomputable def f44s2 (a0 : List Int) (b1 : List Int) (i5 : Int) : St := stOf [(0, .c (.sn 3 (.int .i64) a0 none)), (1, .c (.sn 3 (.int .i64) b1 none)), (5, .c (.int .i64 i5))] [] []
noncomputable def f44l2 : Clean := ⟨[0, 1, 5], [], [], [], []⟩
noncomputable def f44s3  : St := stOf [] [] []
noncomputable def f44l3 : Clean := ⟨[], [], [], [], []⟩
noncomputable def f44s4 (t4 : Bool) : St := stOf [(4, .c (.bool t4))] [] []
noncomputable def f44l4 : Clean := ⟨[4], [], [], [], []⟩
noncomputable def f44B : Nat → Option Clean := lookL [(0, f44l3), (1000000, f44l4)]
noncomputable abbrev f44i {ρ : Type} (N : Nat) (c : Code) (p : Plan) (σ : St) (K : KT ρ) : Option ρ := iCode f44G tab f44B N c p σ K
noncomputable def f44c1 := codeAt (bodyOf Try.f44) [0]
theorem f44t1 {ρ : Type} (N : Nat) (a0 : List Int) (b1 : List Int) (K : KT ρ) : f44i N f44c1 .n (f44s0 a0 b1) (joinK (some f44l1) K) =
  laws_eqIntS.Z1 N a0 b1 (fun a0 b1 => K .nrm (f44s1 a0 b1)) := by kernel_rfl
noncomputable def f44c3 := codeAt (bodyOf Try.f44) [1,0]
theorem f44t3 {ρ : Type} (N : Nat) (a0 : List Int) (b1 : List Int) (K : KT ρ) : f44i N f44c3 .n (f44s1 a0 b1) (joinK (some f44l1) K) =
  laws_eqIntS.Z3 N a0 b1 (fun a0 b1 => K .nrm (f44s1 a0 b1)) (fun t4 => K .ret (f44s4 t4)) := by kernel_rfl
noncomputable def f44c6 := codeAt (bodyOf Try.f44) [1,1,0,0]
theorem f44t6 {ρ : Type} (N : Nat) (a0 : List Int) (b1 : List Int) (K : KT ρ) : f44i N f44c6 .n (f44s1 a0 b1) (joinK (some f44l2) K) =
  laws_eqIntS.Z6 N a0 b1 (fun a0 b1 i5 => K .nrm (f44s2 a0 b1 i5)) := by kernel_rfl
noncomputable def f44c9 := codeAt (bodyOf Try.f44) [1,1,0,1,0,0]
theorem f44t9 {ρ : Type} (N : Nat) (a0 : List Int) (b1 : List Int) (i5 : Int) (K : KT ρ) : f44i N f44c9 .n (f44s2 a0 b1 i5) (joinK (some f44l2) K) =
  laws_eqIntS.Z9 N a0 b1 i5 (fun a0 b1 i5 => K .nrm (f44s2 a0 b1 i5)) (K (.exit 0) f44s3) (fun t4 => K .ret (f44s4 t4)) := by kernel_rfl
noncomputable def f44c8 := codeAt (bodyOf Try.f44) [1,1,0,1,0]
noncomputable def f44p8 : Plan := .mk none (some f44l2) .n .n
noncomputable abbrev f44w8 {ρ : Type} (N : Nat) (M : Nat) (σ : St) (K : KT ρ) : Option ρ := loopC (fun σ K => f44i N f44c9 .n σ K) f44l2 M σ K
theorem f44t8L {ρ : Type} (N : Nat) (K : KT ρ) : ∀ (M : Nat) (a0 : List Int) (b1 : List Int) (i5 : Int), f44w8 N M (f44s2 a0 b1 i5) K =
  laws_eqIntS.Z8L N (K (.exit 0) f44s3) (fun t4 => K .ret (f44s4 t4)) M a0 b1 i5
  | 0, _, _, _ => rfl
  | M + 1, a0, b1, i5 => viaRound (fun k => laws_eqIntS.Z9 N a0 b1 i5 k (K (.exit 0) f44s3) (fun t4 => K .ret (f44s4 t4))) (f44t9 N a0 b1 i5 (seqK (fun σ => f44w8 N M σ K) K)) (funext fun a0 => funext fun b1 => funext fun i5 => f44t8L N K M a0 b1 i5) (by kernel_rfl) (by kernel_rfl)
theorem f44t8 {ρ : Type} (N : Nat) (a0 : List Int) (b1 : List Int) (i5 : Int) (K : KT ρ) : f44i N f44c8 f44p8 (f44s2 a0 b1 i5) (joinK (some f44l3) K) =
  laws_eqIntS.Z8 N a0 b1 i5 (K (.exit 0) f44s3) (fun t4 => K .ret (f44s4 t4)) :=
  viaLoop (by kernel_rfl) (by kernel_rfl) (σ' := f44s2 a0 b1 i5) (by kernel_rfl) (f44t8L N (joinK (some f44l3) K) N a0 b1 i5) (by kernel_rfl)
noncomputable def f44c7 := codeAt (bodyOf Try.f44) [1,1,0,1]
noncomputable def f44p7 : Plan := .mk (some f44l3) none f44p8 .n
theorem f44t7 {ρ : Type} (N : Nat) (a0 : List Int) (b1 : List Int) (i5 : Int) (K : KT ρ) : f44i N f44c7 f44p7 (f44s2 a0 b1 i5) (joinK (some f44l3) K) =
  laws_eqIntS.Z7 N a0 b1 i5 (K .nrm f44s3) (fun t4 => K .ret (f44s4 t4)) :=
  viaBlock (by kernel_rfl) (by kernel_rfl) (f44t8 N a0 b1 i5 (blockK 0 (joinK (some f44l3) K))) (by kernel_rfl)
noncomputable def f44c5 := codeAt (bodyOf Try.f44) [1,1,0]
noncomputable def f44p5 : Plan := .mk (some f44l2) none .n f44p7
theorem f44t5 {ρ : Type} (N : Nat) (a0 : List Int) (b1 : List Int) (K : KT ρ) : f44i N f44c5 f44p5 (f44s1 a0 b1) (joinK (some f44l3) K) =
  laws_eqIntS.Z5 N a0 b1 (K .nrm f44s3) (fun t4 => K .ret (f44s4 t4)) :=
  viaSeq (fun k => laws_eqIntS.Z6 N a0 b1 k) (by kernel_rfl) (by kernel_rfl) (f44t6 N a0 b1 (seqK (fun σ => f44i N f44c7 f44p7 σ (joinK (some f44l3) K)) (joinK (some f44l3) K))) (funext fun a0 => funext fun b1 => funext fun i5 => f44t7 N a0 b1 i5 K) (by kernel_rfl) (by kernel_rfl)
noncomputable def f44c10 := codeAt (bodyOf Try.f44) [1,1,1]
theorem f44t10 {ρ : Type} (N : Nat)  (K : KT ρ) : f44i N f44c10 .n f44s3 (joinK (some f44lE) K) =
  laws_eqIntS.Z10 N (fun t4 => K .ret (f44s4 t4)) := by kernel_rfl
noncomputable def f44c4 := codeAt (bodyOf Try.f44) [1,1]
noncomputable def f44p4 : Plan := .mk (some f44l3) none f44p5 .n
theorem f44t4 {ρ : Type} (N : Nat) (a0 : List Int) (b1 : List Int) (K : KT ρ) : f44i N f44c4 f44p4 (f44s1 a0 b1) (joinK (some f44lE) K) =
  laws_eqIntS.Z4 N a0 b1 (fun t4 => K .ret (f44s4 t4)) :=
  viaSeq (fun k => laws_eqIntS.Z5 N a0 b1 k (fun t4 => K .ret (f44s4 t4))) (by kernel_rfl) (by kernel_rfl) (f44t5 N a0 b1 (seqK (fun σ => f44i N f44c10 .n σ (joinK (some f44lE) K)) (joinK (some f44lE) K))) (f44t10 N K) (by kernel_rfl) (by kernel_rfl)
noncomputable def f44c2 := codeAt (bodyOf Try.f44) [1]
noncomputable def f44p2 : Plan := .mk (some f44l1) none .n f44p4
theorem f44t2 {ρ : Type} (N : Nat) (a0 : List Int) (b1 : List Int) (K : KT ρ) : f44i N f44c2 f44p2 (f44s1 a0 b1) (joinK (some f44lE) K) =
  laws_eqIntS.Z2 N a0 b1 (fun t4 => K .ret (f44s4 t4)) :=
  viaSeq (fun k => laws_eqIntS.Z3 N a0 b1 k (fun t4 => K .ret (f44s4 t4))) (by kernel_rfl) (by kernel_rfl) (f44t3 N a0 b1 (seqK (fun σ => f44i N f44c4 f44p4 σ (joinK (some f44lE) K)) (joinK (some f44lE) K))) (funext fun a0 => funext fun b1 => f44t4 N a0 b1 K) (by kernel_rfl) (by kernel_rfl)
noncomputable def f44c0 := codeAt (bodyOf Try.f44) []
noncomputable def f44p0 : Plan := .mk (some f44l1) none .n f44p2
theorem f44t0 {ρ : Type} (N : Nat) (a0 : List Int) (b1 : List Int) (K : KT ρ) : f44i N f44c0 f44p0 (f44s0 a0 b1) (joinK (some f44lE) K) =
  laws_eqIntS.Z0 N a0 b1 (fun t4 => K .ret (f44s4 t4)) :=
  viaSeq (fun k => laws_eqIntS.Z1 N a0 b1 k) (by kernel_rfl) (by kernel_rfl) (f44t1 N a0 b1 (seqK (fun σ => f44i N f44c2 f44p2 σ (joinK (some f44lE) K)) (joinK (some f44lE) K))) (funext fun a0 => funext fun b1 => f44t2 N a0 b1 K) (by kernel_rfl) (by kernel_rfl)
theorem f44m (N : Nat) (a0 : List Int) (b1 : List Int) : f44i N f44c0 f44p0 (f44s0 a0 b1) (joinK (some f44lE) (finK tab f44sig Try.f44.results.toList)) = laws_eqIntS.Z0 N a0 b1 (fun t4 => some ((), (t4, ()))) :=
  (f44t0 N a0 b1 (finK tab f44sig Try.f44.results.toList)).trans (by kernel_rfl)
theorem f44ok (h : laws_eqIntS.Spec) : EntryOk Try.prog 44 e44 :=
  entry_of_code (sig := f44sig) (c := f44c0) (pl := f44p0) (je := (some f44lE)) (B := f44B) Try.func44 (by kernel_rfl) (by kernel_rfl) (by kernel_rfl) tabOk f44GOk (by kernel_rfl) (by kernel_rfl) (by kernel_rfl) (by kernel_rfl) fun X hb hp => by
    obtain ⟨a0, b1, _⟩ := X
    obtain ⟨N, h⟩ := h a0 b1 hb.1 hb.2.1
    exact ⟨N, (f44m N a0 b1).trans (h N (Nat.le_refl N))⟩
theorem e44ok : EntryOk Try.prog 44 e44 := f44ok laws_eqIntS.ok
end Go.Fw
set_option linter.unusedVariables false
set_option linter.unusedSimpArgs false
set_option maxRecDepth 100000
namespace Go.Fw
open Go.Proofs
/-! ### loop.example/g03115/laws.eqIntSS -/
noncomputable def f36sig : Sig := ⟨[⟨.sl 24 (.sl 3 (.int .i64)), false, false⟩, ⟨.sl 24 (.sl 3 (.int .i64)), false, false⟩], [⟨.bool, false, false⟩]⟩
noncomputable def e36 : Entry := ⟨f36sig, none, fun X => ((), ((laws_eqIntSS.g X.1 X.2.1), ()))⟩
noncomputable def f36G : Nat → Option Entry := addG (fun _ => none) 44 e44
theorem f36GOk : GOk Try.prog f36G := (GOk.nil).add e44ok (by kernel_rfl)
noncomputable def f36lE : Clean := ⟨[], [], [], [], []⟩
noncomputable def f36s0 (a0 : List (List Int)) (b1 : List (List Int)) : St := initSt f36sig.ps (a0, (b1, ()))
noncomputable def f36s1 (a0 : List (List Int)) (b1 : List (List Int)) : St := stOf [(0, .c (.sn 24 (.sl 3 (.int .i64)) a0 none)), (1, .c (.sn 24 (.sl 3 (.int .i64)) b1 none))] [] []
noncomputable def f36l1 : Clean := ⟨[0, 1], [], [], [], []⟩
noncomputable def f36s2 (a0 : List (List Int)) (b1 : List (List Int)) (i5 : Int) : St := stOf [(0, .c (.sn 24 (.sl 3 (.int .i64)) a0 none)), (1, .c (.sn 24 (.sl 3 (.int .i64)) b1 none)), (5, .c (.int .i64 i5))] [] []
noncomputable def f36l2 : Clean := ⟨[0, 1, 5], [], [], [], []⟩
noncomputable def f36s3  : St := stOf [] [] []
noncomputable def f36l3 : Clean := ⟨[], [], [], [], []⟩
noncomputable def f36s4 (t4 : Bool) : St := stOf [(4, .c (.bool t4))] [] []
noncomputable def f36l4 : Clean := ⟨[4], [], [], [], []⟩
noncomputable def f36B : Nat → Option Clean := lookL [(0, f36l3), (1000000, f36l4)]
noncomputable abbrev f36i {ρ : Type} (N : Nat) (c : Code) (p : Plan) (σ : St) (K : KT ρ) : Option ρ := iCode f36G tab f36B N c p σ K
noncomputable def f36c1 := codeAt (bodyOf Try.f36) [0]
theorem f36t1 {ρ : Type} (N : Nat) (a0 : List (List Int)) (b1 : List (List Int)) (K : KT ρ) : f36i N f36c1 .n (f36s0 a0 b1) (joinK (some f36l1) K) =
  laws_eqIntSS.Z1 N a0 b1 (fun a0 b1 => K .nrm (f36s1 a0 b1)) := by kernel_rfl
noncomputable def f36c3 := codeAt (bodyOf Try.f36) [1,0]
theorem f36t3 {ρ : Type} (N : Nat) (a0 : List (List Int)) (b1 : List (List Int)) (K : KT ρ) : f36i N f36c3 .n (f36s1 a0 b1) (joinK (some f36l1) K) =
  laws_eqIntSS.Z3 N a0 b1 (fun a0 b1 => K .nrm (f36s1 a0 b1)) (fun t4 => K .ret (f36s4 t4)) := by kernel_rfl
noncomputable def f36c6 := codeAt (bodyOf Try.f36) [1,1,0,0]
theorem f36t6 {ρ : Type} (N : Nat) (a0 : List (List Int)) (b1 : List (List Int)) (K : KT ρ) : f36i N f36c6 .n (f36s1 a0 b1) (joinK (some f36l2) K) =
  laws_eqIntSS.Z6 N a0 b1 (fun a0 b1 i5 => K .nrm (f36s2 a0 b1 i5)) := by kernel_rfl
noncomputable def f36c9 := codeAt (bodyOf Try.f36) [1,1,0,1,0,0]
theorem f36t9 {ρ : Type} (N : Nat) (a0 : List (List Int)) (b1 : List (List Int)) (i5 : Int) (K : KT ρ) : f36i N f36c9 .n (f36s2 a0 b1 i5) (joinK (some f36l2) K) =
  laws_eqIntSS.Z9 N a0 b1 i5 (fun a0 b1 i5 => K .nrm (f36s2 a0 b1 i5)) (K (.exit 0) f36s3) (fun t4 => K .ret (f36s4 t4)) := by kernel_rfl
noncomputable def f36c8 := codeAt (bodyOf Try.f36) [1,1,0,1,0]
noncomputable def f36p8 : Plan := .mk none (some f36l2) .n .n
noncomputable abbrev f36w8 {ρ : Type} (N : Nat) (M : Nat) (σ : St) (K : KT ρ) : Option ρ := loopC (fun σ K => f36i N f36c9 .n σ K) f36l2 M σ K
theorem f36t8L {ρ : Type} (N : Nat) (K : KT ρ) : ∀ (M : Nat) (a0 : List (List Int)) (b1 : List (List Int)) (i5 : Int), f36w8 N M (f36s2 a0 b1 i5) K =
  laws_eqIntSS.Z8L N (K (.exit 0) f36s3) (fun t4 => K .ret (f36s4 t4)) M a0 b1 i5
  | 0, _, _, _ => rfl
  | M + 1, a0, b1, i5 => viaRound (fun k => laws_eqIntSS.Z9 N a0 b1 i5 k (K (.exit 0) f36s3) (fun t4 => K .ret (f36s4 t4))) (f36t9 N a0 b1 i5 (seqK (fun σ => f36w8 N M σ K) K)) (funext fun a0 => funext fun b1 => funext fun i5 => f36t8L N K M a0 b1 i5) (by kernel_rfl) (by kernel_rfl)
theorem f36t8 {ρ : Type} (N : Nat) (a0 : List (List Int)) (b1 : List (List Int)) (i5 : Int) (K : KT ρ) : f36i N f36c8 f36p8 (f36s2 a0 b1 i5) (joinK (some f36l3) K) =
  laws_eqIntSS.Z8 N a0 b1 i5 (K (.exit 0) f36s3) (fun t4 => K .ret (f36s4 t4)) :=
  viaLoop (by kernel_rfl) (by kernel_rfl) (σ' := f36s2 a0 b1 i5) (by kernel_rfl) (f36t8L N (joinK (some f36l3) K) N a0 b1 i5) (by kernel_rfl)
noncomputable def f36c7 := codeAt (bodyOf Try.f36) [1,1,0,1]
noncomputable def f36p7 : Plan := .mk (some f36l3) none f36p8 .n
theorem f36t7 {ρ : Type} (N : Nat) (a0 : List (List Int)) (b1 : List (List Int)) (i5 : Int) (K : KT ρ) : f36i N f36c7 f36p7 (f36s2 a0 b1 i5) (joinK (some f36l3) K) =
  laws_eqIntSS.Z7 N a0 b1 i5 (K .nrm f36s3) (fun t4 => K .ret (f36s4 t4)) :=
  viaBlock (by kernel_rfl) (by kernel_rfl) (f36t8 N a0 b1 i5 (blockK 0 (joinK (some f36l3) K))) (by kernel_rfl)
noncomputable def f36c5 := codeAt (bodyOf Try.f36) [1,1,0]
noncomputable def f36p5 : Plan := .mk (some f36l2) none .n f36p7
theorem f36t5 {ρ : Type} (N : Nat) (a0 : List (List Int)) (b1 : List (List Int)) (K : KT ρ) : f36i N f36c5 f36p5 (f36s1 a0 b1) (joinK (some f36l3) K) =
  laws_eqIntSS.Z5 N a0 b1 (K .nrm f36s3) (fun t4 => K .ret (f36s4 t4)) :=
  viaSeq (fun k => laws_eqIntSS.Z6 N a0 b1 k) (by kernel_rfl) (by kernel_rfl) (f36t6 N a0 b1 (seqK (fun σ => f36i N f36c7 f36p7 σ (joinK (some f36l3) K)) (joinK (some f36l3) K))) (funext fun a0 => funext fun b1 => funext fun i5 => f36t7 N a0 b1 i5 K) (by kernel_rfl) (by kernel_rfl)
noncomputable def f36c10 := codeAt (bodyOf Try.f36) [1,1,1]
theorem f36t10 {ρ : Type} (N : Nat)  (K : KT ρ) : f36i N f36c10 .n f36s3 (joinK (some f36lE) K) =
  laws_eqIntSS.Z10 N (fun t4 => K .ret (f36s4 t4)) := by kernel_rfl
noncomputable def f36c4 := codeAt (bodyOf Try.f36) [1,1]
noncomputable def f36p4 : Plan := .mk (some f36l3) none f36p5 .n
theorem f36t4 {ρ : Type} (N : Nat) (a0 : List (List Int)) (b1 : List (List Int)) (K : KT ρ) : f36i N f36c4 f36p4 (f36s1 a0 b1) (joinK (some f36lE) K) =
  laws_eqIntSS.Z4 N a0 b1 (fun t4 => K .ret (f36s4 t4)) :=
  viaSeq (fun k => laws_eqIntSS.Z5 N a0 b1 k (fun t4 => K .ret (f36s4 t4))) (by kernel_rfl) (by kernel_rfl) (f36t5 N a0 b1 (seqK (fun σ => f36i N f36c10 .n σ (joinK (some f36lE) K)) (joinK (some f36lE) K))) (f36t10 N K) (by kernel_rfl) (by kernel_rfl)
noncomputable def f36c2 := codeAt (bodyOf Try.f36) [1]
noncomputable def f36p2 : Plan := .mk (some f36l1) none .n f36p4
theorem f36t2 {ρ : Type} (N : Nat) (a0 : List (List Int)) (b1 : List (List Int)) (K : KT ρ) : f36i N f36c2 f36p2 (f36s1 a0 b1) (joinK (some f36lE) K) =
  laws_eqIntSS.Z2 N a0 b1 (fun t4 => K .ret (f36s4 t4)) :=
  viaSeq (fun k => laws_eqIntSS.Z3 N a0 b1 k (fun t4 => K .ret (f36s4 t4))) (by kernel_rfl) (by kernel_rfl) (f36t3 N a0 b1 (seqK (fun σ => f36i N f36c4 f36p4 σ (joinK (some f36lE) K)) (joinK (some f36lE) K))) (funext fun a0 => funext fun b1 => f36t4 N a0 b1 K) (by kernel_rfl) (by kernel_rfl)
noncomputable def f36c0 := codeAt (bodyOf Try.f36) []
noncomputable def f36p0 : Plan := .mk (some f36l1) none .n f36p2
theorem f36t0 {ρ : Type} (N : Nat) (a0 : List (List Int)) (b1 : List (List Int)) (K : KT ρ) : f36i N f36c0 f36p0 (f36s0 a0 b1) (joinK (some f36lE) K) =
  laws_eqIntSS.Z0 N a0 b1 (fun t4 => K .ret (f36s4 t4)) :=
  viaSeq (fun k => laws_eqIntSS.Z1 N a0 b1 k) (by kernel_rfl) (by kernel_rfl) (f36t1 N a0 b1 (seqK (fun σ => f36i N f36c2 f36p2 σ (joinK (some f36lE) K)) (joinK (some f36lE) K))) (funext fun a0 => funext fun b1 => f36t2 N a0 b1 K) (by kernel_rfl) (by kernel_rfl)
theorem f36m (N : Nat) (a0 : List (List Int)) (b1 : List (List Int)) : f36i N f36c0 f36p0 (f36s0 a0 b1) (joinK (some f36lE) (finK tab f36sig Try.f36.results.toList)) = laws_eqIntSS.Z0 N a0 b1 (fun t4 => some ((), (t4, ()))) :=
  (f36t0 N a0 b1 (finK tab f36sig Try.f36.results.toList)).trans (by kernel_rfl)
theorem f36ok (h : laws_eqIntSS.Spec) : EntryOk Try.prog 36 e36 :=
  entry_of_code (sig := f36sig) (c := f36c0) (pl := f36p0) (je := (some f36lE)) (B := f36B) Try.func36 (by kernel_rfl) (by kernel_rfl) (by kernel_rfl) tabOk f36GOk (by kernel_rfl) (by kernel_rfl) (by kernel_rfl) (by kernel_rfl) fun X hb hp => by
    obtain ⟨a0, b1, _⟩ := X
    obtain ⟨N, h⟩ := h a0 b1 hb.1 hb.2.1
    exact ⟨N, (f36m N a0 b1).trans (h N (Nat.le_refl N))⟩
theorem e36ok : EntryOk Try.prog 36 e36 := f36ok laws_eqIntSS.ok
end Go.Fw
set_option linter.unusedVariables false
set_option linter.unusedSimpArgs false
set_option maxRecDepth 100000
namespace Go.Fw
open Go.Proofs
/-! ### loop.example/g03115/laws.eqMatrix -/
noncomputable def f31sig : Sig := ⟨[⟨.pair (.int .i64) (.pair (.int .i64) (.sl 3 (.int .i64))), true, false⟩, ⟨.pair (.int .i64) (.pair (.int .i64) (.sl 3 (.int .i64))), true, false⟩], [⟨.bool, false, false⟩]⟩
noncomputable def e31 : Entry := ⟨f31sig, none, fun X => ((), ((laws_eqMatrix.g X.1 X.2.1), ()))⟩
noncomputable def f31G : Nat → Option Entry := addG (fun _ => none) 44 e44
theorem f31GOk : GOk Try.prog f31G := (GOk.nil).add e44ok (by kernel_rfl)
noncomputable def f31lE : Clean := ⟨[], [], [], [], []⟩
noncomputable def f31s0 (a0 : Int × Int × List Int) (b1 : Int × Int × List Int) : St := initSt f31sig.ps (a0, (b1, ()))
noncomputable def f31s1 (t4 : Bool) : St := stOf [(4, .c (.bool t4))] [] []
noncomputable def f31l1 : Clean := ⟨[4], [], [], [], []⟩
noncomputable def f31B : Nat → Option Clean := lookL [(1000000, f31l1)]
noncomputable abbrev f31i {ρ : Type} (N : Nat) (c : Code) (p : Plan) (σ : St) (K : KT ρ) : Option ρ := iCode f31G tab f31B N c p σ K
noncomputable def f31c0 := codeAt (bodyOf Try.f31) []
theorem f31t0 {ρ : Type} (N : Nat) (a0 : Int × Int × List Int) (b1 : Int × Int × List Int) (K : KT ρ) : f31i N f31c0 .n (f31s0 a0 b1) (joinK (some f31lE) K) =
  laws_eqMatrix.Z0 N a0 b1 (fun t4 => K .ret (f31s1 t4)) := by kernel_rfl
theorem f31m (N : Nat) (a0 : Int × Int × List Int) (b1 : Int × Int × List Int) : f31i N f31c0 .n (f31s0 a0 b1) (joinK (some f31lE) (finK tab f31sig Try.f31.results.toList)) = laws_eqMatrix.Z0 N a0 b1 (fun t4 => some ((), (t4, ()))) :=
  (f31t0 N a0 b1 (finK tab f31sig Try.f31.results.toList)).trans (by kernel_rfl)
theorem f31ok (h : laws_eqMatrix.Spec) : EntryOk Try.prog 31 e31 :=
  entry_of_code (sig := f31sig) (c := f31c0) (pl := .n) (je := (some f31lE)) (B := f31B) Try.func31 (by kernel_rfl) (by kernel_rfl) (by kernel_rfl) tabOk f31GOk (by kernel_rfl) (by kernel_rfl) (by kernel_rfl) (by kernel_rfl) fun X hb hp => by
    obtain ⟨a0, b1, _⟩ := X
    obtain ⟨N, h⟩ := h a0 b1 hb.1 hb.2.1
    exact ⟨N, (f31m N a0 b1).trans (h N (Nat.le_refl N))⟩
theorem e31ok : EntryOk Try.prog 31 e31 := f31ok laws_eqMatrix.ok
end Go.Fw
set_option linter.unusedVariables false
set_option linter.unusedSimpArgs false
set_option maxRecDepth 100000
namespace Go.Fw
open Go.Proofs
/-! ### loop.example/g03115/laws.markIntS -/
noncomputable def f45sig : Sig := ⟨[⟨.sl 3 (.int .i64), false, true⟩, ⟨.int .i64, false, false⟩], [⟨.int .i64, false, false⟩]⟩
noncomputable def e45 : Entry := ⟨f45sig, none, fun X => ((laws_markIntS.g X.1 X.2.1).1, ((laws_markIntS.g X.1 X.2.1).2, ()))⟩
noncomputable def f45G : Nat → Option Entry := (fun _ => none)
theorem f45GOk : GOk Try.prog f45G := GOk.nil
noncomputable def f45lE : Clean := ⟨[], [], [], [], []⟩
noncomputable def f45s0 (a0 : List Int) (k1 : Int) : St := initSt f45sig.ps (a0, (k1, ()))
noncomputable def f45s1 (a0 : List Int) (k1 : Int) : St := stOf [(0, .c (.own 1000000)), (1, .c (.int .i64 k1)), (100000, .c (.own 1000000))] [] [(1000000, (⟨3, .int .i64, a0, true, false⟩ : Row))]
noncomputable def f45l1 : Clean := ⟨[0, 1, 100000], [], [], [], [(⟨false, 0, 0⟩, 1000000)]⟩
noncomputable def f45s2 (a0 : List Int) (k1 : Int) (i5 : Int) : St := stOf [(0, .c (.own 1000000)), (1, .c (.int .i64 k1)), (5, .c (.int .i64 i5)), (100000, .c (.own 1000000))] [] [(1000000, (⟨3, .int .i64, a0, true, false⟩ : Row))]
noncomputable def f45l2 : Clean := ⟨[0, 1, 5, 100000], [], [], [], [(⟨false, 0, 0⟩, 1000000)]⟩
noncomputable def f45s3 (io100000 : List Int) (k1 : Int) : St := stOf [(1, .c (.int .i64 k1)), (100000, .c (.own 7400000))] [] [(7400000, (⟨3, .int .i64, io100000, true, false⟩ : Row))]
noncomputable def f45l3 : Clean := ⟨[1, 100000], [], [], [], [(⟨false, 100000, 0⟩, 7400000)]⟩
noncomputable def f45s4 (io100000 : List Int) (t4 : Int) : St := stOf [(4, .c (.int .i64 t4)), (100000, .c (.own 7400000))] [] [(7400000, (⟨3, .int .i64, io100000, true, false⟩ : Row))]
noncomputable def f45l4 : Clean := ⟨[4, 100000], [], [], [], [(⟨false, 100000, 0⟩, 7400000)]⟩
noncomputable def f45B : Nat → Option Clean := lookL [(0, f45l3), (1000000, f45l4)]
noncomputable abbrev f45i {ρ : Type} (N : Nat) (c : Code) (p : Plan) (σ : St) (K : KT ρ) : Option ρ := iCode f45G tab f45B N c p σ K
noncomputable def f45c1 := codeAt (bodyOf Try.f45) [0]
theorem f45t1 {ρ : Type} (N : Nat) (a0 : List Int) (k1 : Int) (K : KT ρ) : f45i N f45c1 .n (f45s0 a0 k1) (joinK (some f45l1) K) =
  laws_markIntS.Z1 N a0 k1 (fun a0 k1 => K .nrm (f45s1 a0 k1)) := by kernel_rfl
noncomputable def f45c4 := codeAt (bodyOf Try.f45) [1,0,0]
theorem f45t4 {ρ : Type} (N : Nat) (a0 : List Int) (k1 : Int) (K : KT ρ) : f45i N f45c4 .n (f45s1 a0 k1) (joinK (some f45l2) K) =
  laws_markIntS.Z4 N a0 k1 (fun a0 k1 i5 => K .nrm (f45s2 a0 k1 i5)) := by kernel_rfl
noncomputable def f45c7 := codeAt (bodyOf Try.f45) [1,0,1,0,0]
theorem f45t7 {ρ : Type} (N : Nat) (a0 : List Int) (k1 : Int) (i5 : Int) (K : KT ρ) : f45i N f45c7 .n (f45s2 a0 k1 i5) (joinK (some f45l2) K) =
  laws_markIntS.Z7 N a0 k1 i5 (fun a0 k1 i5 => K .nrm (f45s2 a0 k1 i5)) (fun io100000 k1 => K (.exit 0) (f45s3 io100000 k1)) := by kernel_rfl
noncomputable def f45c6 := codeAt (bodyOf Try.f45) [1,0,1,0]
noncomputable def f45p6 : Plan := .mk none (some f45l2) .n .n
noncomputable abbrev f45w6 {ρ : Type} (N : Nat) (M : Nat) (σ : St) (K : KT ρ) : Option ρ := loopC (fun σ K => f45i N f45c7 .n σ K) f45l2 M σ K
theorem f45t6L {ρ : Type} (N : Nat) (K : KT ρ) : ∀ (M : Nat) (a0 : List Int) (k1 : Int) (i5 : Int), f45w6 N M (f45s2 a0 k1 i5) K =
  laws_markIntS.Z6L N (fun io100000 k1 => K (.exit 0) (f45s3 io100000 k1)) M a0 k1 i5
  | 0, _, _, _ => rfl
  | M + 1, a0, k1, i5 => viaRound (fun k => laws_markIntS.Z7 N a0 k1 i5 k (fun io100000 k1 => K (.exit 0) (f45s3 io100000 k1))) (f45t7 N a0 k1 i5 (seqK (fun σ => f45w6 N M σ K) K)) (funext fun a0 => funext fun k1 => funext fun i5 => f45t6L N K M a0 k1 i5) (by kernel_rfl) (by kernel_rfl)
theorem f45t6 {ρ : Type} (N : Nat) (a0 : List Int) (k1 : Int) (i5 : Int) (K : KT ρ) : f45i N f45c6 f45p6 (f45s2 a0 k1 i5) (joinK (some f45l3) K) =
  laws_markIntS.Z6 N a0 k1 i5 (fun io100000 k1 => K (.exit 0) (f45s3 io100000 k1)) :=
  viaLoop (by kernel_rfl) (by kernel_rfl) (σ' := f45s2 a0 k1 i5) (by kernel_rfl) (f45t6L N (joinK (some f45l3) K) N a0 k1 i5) (by kernel_rfl)
noncomputable def f45c5 := codeAt (bodyOf Try.f45) [1,0,1]
noncomputable def f45p5 : Plan := .mk (some f45l3) none f45p6 .n
theorem f45t5 {ρ : Type} (N : Nat) (a0 : List Int) (k1 : Int) (i5 : Int) (K : KT ρ) : f45i N f45c5 f45p5 (f45s2 a0 k1 i5) (joinK (some f45l3) K) =
  laws_markIntS.Z5 N a0 k1 i5 (fun io100000 k1 => K .nrm (f45s3 io100000 k1)) :=
  viaBlock (by kernel_rfl) (by kernel_rfl) (f45t6 N a0 k1 i5 (blockK 0 (joinK (some f45l3) K))) (by kernel_rfl)
noncomputable def f45c3 := codeAt (bodyOf Try.f45) [1,0]
noncomputable def f45p3 : Plan := .mk (some f45l2) none .n f45p5
theorem f45t3 {ρ : Type} (N : Nat) (a0 : List Int) (k1 : Int) (K : KT ρ) : f45i N f45c3 f45p3 (f45s1 a0 k1) (joinK (some f45l3) K) =
  laws_markIntS.Z3 N a0 k1 (fun io100000 k1 => K .nrm (f45s3 io100000 k1)) :=
  viaSeq (fun k => laws_markIntS.Z4 N a0 k1 k) (by kernel_rfl) (by kernel_rfl) (f45t4 N a0 k1 (seqK (fun σ => f45i N f45c5 f45p5 σ (joinK (some f45l3) K)) (joinK (some f45l3) K))) (funext fun a0 => funext fun k1 => funext fun i5 => f45t5 N a0 k1 i5 K) (by kernel_rfl) (by kernel_rfl)
noncomputable def f45c8 := codeAt (bodyOf Try.f45) [1,1]
theorem f45t8 {ρ : Type} (N : Nat) (io100000 : List Int) (k1 : Int) (K : KT ρ) : f45i N f45c8 .n (f45s3 io100000 k1) (joinK (some f45lE) K) =
  laws_markIntS.Z8 N io100000 k1 (fun io100000 t4 => K .ret (f45s4 io100000 t4)) := by kernel_rfl
noncomputable def f45c2 := codeAt (bodyOf Try.f45) [1]
noncomputable def f45p2 : Plan := .mk (some f45l3) none f45p3 .n
theorem f45t2 {ρ : Type} (N : Nat) (a0 : List Int) (k1 : Int) (K : KT ρ) : f45i N f45c2 f45p2 (f45s1 a0 k1) (joinK (some f45lE) K) =
  laws_markIntS.Z2 N a0 k1 (fun io100000 t4 => K .ret (f45s4 io100000 t4)) :=
  viaSeq (fun k => laws_markIntS.Z3 N a0 k1 k) (by kernel_rfl) (by kernel_rfl) (f45t3 N a0 k1 (seqK (fun σ => f45i N f45c8 .n σ (joinK (some f45lE) K)) (joinK (some f45lE) K))) (funext fun io100000 => funext fun k1 => f45t8 N io100000 k1 K) (by kernel_rfl) (by kernel_rfl)
noncomputable def f45c0 := codeAt (bodyOf Try.f45) []
noncomputable def f45p0 : Plan := .mk (some f45l1) none .n f45p2
theorem f45t0 {ρ : Type} (N : Nat) (a0 : List Int) (k1 : Int) (K : KT ρ) : f45i N f45c0 f45p0 (f45s0 a0 k1) (joinK (some f45lE) K) =
  laws_markIntS.Z0 N a0 k1 (fun io100000 t4 => K .ret (f45s4 io100000 t4)) :=
  viaSeq (fun k => laws_markIntS.Z1 N a0 k1 k) (by kernel_rfl) (by kernel_rfl) (f45t1 N a0 k1 (seqK (fun σ => f45i N f45c2 f45p2 σ (joinK (some f45lE) K)) (joinK (some f45lE) K))) (funext fun a0 => funext fun k1 => f45t2 N a0 k1 K) (by kernel_rfl) (by kernel_rfl)
theorem f45m (N : Nat) (a0 : List Int) (k1 : Int) : f45i N f45c0 f45p0 (f45s0 a0 k1) (joinK (some f45lE) (finK tab f45sig Try.f45.results.toList)) = laws_markIntS.Z0 N a0 k1 (fun io100000 t4 => some (io100000, (t4, ()))) :=
  (f45t0 N a0 k1 (finK tab f45sig Try.f45.results.toList)).trans (by kernel_rfl)
theorem f45ok (h : laws_markIntS.Spec) : EntryOk Try.prog 45 e45 :=
  entry_of_code (sig := f45sig) (c := f45c0) (pl := f45p0) (je := (some f45lE)) (B := f45B) Try.func45 (by kernel_rfl) (by kernel_rfl) (by kernel_rfl) tabOk f45GOk (by kernel_rfl) (by kernel_rfl) (by kernel_rfl) (by kernel_rfl) fun X hb hp => by
    obtain ⟨a0, k1, _⟩ := X
    obtain ⟨N, h⟩ := h a0 k1 hb.1
    exact ⟨N, (f45m N a0 k1).trans (h N (Nat.le_refl N))⟩
theorem e45ok : EntryOk Try.prog 45 e45 := f45ok laws_markIntS.ok
end Go.Fw
set_option linter.unusedVariables false
set_option linter.unusedSimpArgs false
set_option maxRecDepth 100000
namespace Go.Fw
open Go.Proofs
/-! ### loop.example/g03115/laws.markMatrix -/
noncomputable def f32sig : Sig := ⟨[⟨.pair (.int .i64) (.pair (.int .i64) (.sl 3 (.int .i64))), true, true⟩, ⟨.int .i64, false, false⟩], [⟨.int .i64, false, false⟩]⟩
noncomputable def e32 : Entry := ⟨f32sig, none, fun X => ((laws_markMatrix.g X.1 X.2.1).1, ((laws_markMatrix.g X.1 X.2.1).2, ()))⟩
noncomputable def f32G : Nat → Option Entry := addG (fun _ => none) 45 e45
theorem f32GOk : GOk Try.prog f32G := (GOk.nil).add e45ok (by kernel_rfl)
noncomputable def f32lE : Clean := ⟨[], [], [], [], []⟩
noncomputable def f32s0 (a0 : Int × Int × List Int) (k1 : Int) : St := initSt f32sig.ps (a0, (k1, ()))
noncomputable def f32s1 (io100000_2 : List Int) (t4 : Int) (io100000_0 : Int) (io100000_1 : Int) : St := stOf [(4, .c (.int .i64 t4)), (100000, .agg [.int .i64 io100000_0, .int .i64 io100000_1, .own 7400002])] [] [(7400002, (⟨3, .int .i64, io100000_2, true, false⟩ : Row))]
noncomputable def f32l1 : Clean := ⟨[4, 100000], [], [], [], [(⟨false, 100000, 2⟩, 7400002)]⟩
noncomputable def f32B : Nat → Option Clean := lookL [(1000000, f32l1)]
noncomputable abbrev f32i {ρ : Type} (N : Nat) (c : Code) (p : Plan) (σ : St) (K : KT ρ) : Option ρ := iCode f32G tab f32B N c p σ K
noncomputable def f32c0 := codeAt (bodyOf Try.f32) []
theorem f32t0 {ρ : Type} (N : Nat) (a0 : Int × Int × List Int) (k1 : Int) (K : KT ρ) : f32i N f32c0 .n (f32s0 a0 k1) (joinK (some f32lE) K) =
  laws_markMatrix.Z0 N a0 k1 (fun io100000_2 t4 io100000_0 io100000_1 => K .ret (f32s1 io100000_2 t4 io100000_0 io100000_1)) := by kernel_rfl
theorem f32m (N : Nat) (a0 : Int × Int × List Int) (k1 : Int) : f32i N f32c0 .n (f32s0 a0 k1) (joinK (some f32lE) (finK tab f32sig Try.f32.results.toList)) = laws_markMatrix.Z0 N a0 k1 (fun io100000_2 t4 io100000_0 io100000_1 => some ((io100000_0, (io100000_1, io100000_2)), (t4, ()))) :=
  (f32t0 N a0 k1 (finK tab f32sig Try.f32.results.toList)).trans (by kernel_rfl)
theorem f32ok (h : laws_markMatrix.Spec) : EntryOk Try.prog 32 e32 :=
  entry_of_code (sig := f32sig) (c := f32c0) (pl := .n) (je := (some f32lE)) (B := f32B) Try.func32 (by kernel_rfl) (by kernel_rfl) (by kernel_rfl) tabOk f32GOk (by kernel_rfl) (by kernel_rfl) (by kernel_rfl) (by kernel_rfl) fun X hb hp => by
    obtain ⟨a0, k1, _⟩ := X
    obtain ⟨N, h⟩ := h a0 k1 hb.1
    exact ⟨N, (f32m N a0 k1).trans (h N (Nat.le_refl N))⟩
theorem e32ok : EntryOk Try.prog 32 e32 := f32ok laws_markMatrix.ok
end Go.Fw
set_option linter.unusedVariables false
set_option linter.unusedSimpArgs false
set_option maxRecDepth 100000
namespace Go.Fw
open Go.Proofs
/-! ### loop.example/g03115/laws.markIntSS -/
noncomputable def f37sig : Sig := ⟨[⟨.sl 24 (.sl 3 (.int .i64)), false, true⟩, ⟨.int .i64, false, false⟩], [⟨.int .i64, false, false⟩]⟩
noncomputable def e37 : Entry := ⟨f37sig, none, fun X => ((laws_markIntSS.g X.1 X.2.1).1, ((laws_markIntSS.g X.1 X.2.1).2, ()))⟩
noncomputable def f37G : Nat → Option Entry := addG (fun _ => none) 45 e45
theorem f37GOk : GOk Try.prog f37G := (GOk.nil).add e45ok (by kernel_rfl)
noncomputable def f37lE : Clean := ⟨[], [], [], [], []⟩
noncomputable def f37s0 (a0 : List (List Int)) (k1 : Int) : St := initSt f37sig.ps (a0, (k1, ()))
noncomputable def f37s1 (a0 : List (List Int)) (k1 : Int) : St := stOf [(0, .c (.own 1000000)), (1, .c (.int .i64 k1)), (100000, .c (.own 1000000))] [] [(1000000, (⟨24, .sl 3 (.int .i64), a0, true, false⟩ : Row))]
noncomputable def f37l1 : Clean := ⟨[0, 1, 100000], [], [], [], [(⟨false, 0, 0⟩, 1000000)]⟩
noncomputable def f37s2 (a0 : List (List Int)) (k1 : Int) (i5 : Int) : St := stOf [(0, .c (.own 1000000)), (1, .c (.int .i64 k1)), (5, .c (.int .i64 i5)), (100000, .c (.own 1000000))] [] [(1000000, (⟨24, .sl 3 (.int .i64), a0, true, false⟩ : Row))]
noncomputable def f37l2 : Clean := ⟨[0, 1, 5, 100000], [], [], [], [(⟨false, 0, 0⟩, 1000000)]⟩
noncomputable def f37s3 (io100000 : List (List Int)) (k1 : Int) : St := stOf [(1, .c (.int .i64 k1)), (100000, .c (.own 7400000))] [] [(7400000, (⟨24, .sl 3 (.int .i64), io100000, true, false⟩ : Row))]
noncomputable def f37l3 : Clean := ⟨[1, 100000], [], [], [], [(⟨false, 100000, 0⟩, 7400000)]⟩
noncomputable def f37s4 (io100000 : List (List Int)) (t4 : Int) : St := stOf [(4, .c (.int .i64 t4)), (100000, .c (.own 7400000))] [] [(7400000, (⟨24, .sl 3 (.int .i64), io100000, true, false⟩ : Row))]
noncomputable def f37l4 : Clean := ⟨[4, 100000], [], [], [], [(⟨false, 100000, 0⟩, 7400000)]⟩
noncomputable def f37B : Nat → Option Clean := lookL [(0, f37l3), (1000000, f37l4)]
noncomputable abbrev f37i {ρ : Type} (N : Nat) (c : Code) (p : Plan) (σ : St) (K : KT ρ) : Option ρ := iCode f37G tab f37B N c p σ K
noncomputable def f37c1 := codeAt (bodyOf Try.f37) [0]
theorem f37t1 {ρ : Type} (N : Nat) (a0 : List (List Int)) (k1 : Int) (K : KT ρ) : f37i N f37c1 .n (f37s0 a0 k1) (joinK (some f37l1) K) =
  laws_markIntSS.Z1 N a0 k1 (fun a0 k1 => K .nrm (f37s1 a0 k1)) := by kernel_rfl
noncomputable def f37c4 := codeAt (bodyOf Try.f37) [1,0,0]
theorem f37t4 {ρ : Type} (N : Nat) (a0 : List (List Int)) (k1 : Int) (K : KT ρ) : f37i N f37c4 .n (f37s1 a0 k1) (joinK (some f37l2) K) =
  laws_markIntSS.Z4 N a0 k1 (fun a0 k1 i5 => K .nrm (f37s2 a0 k1 i5)) := by kernel_rfl
noncomputable def f37c7 := codeAt (bodyOf Try.f37) [1,0,1,0,0]
theorem f37t7 {ρ : Type} (N : Nat) (a0 : List (List Int)) (k1 : Int) (i5 : Int) (K : KT ρ) : f37i N f37c7 .n (f37s2 a0 k1 i5) (joinK (some f37l2) K) =
  laws_markIntSS.Z7 N a0 k1 i5 (fun a0 k1 i5 => K .nrm (f37s2 a0 k1 i5)) (fun io100000 k1 => K (.exit 0) (f37s3 io100000 k1)) := by kernel_rfl
noncomputable def f37c6 := codeAt (bodyOf Try.f37) [1,0,1,0]
noncomputable def f37p6 : Plan := .mk none (some f37l2) .n .n
noncomputable abbrev f37w6 {ρ : Type} (N : Nat) (M : Nat) (σ : St) (K : KT ρ) : Option ρ := loopC (fun σ K => f37i N f37c7 .n σ K) f37l2 M σ K
theorem f37t6L {ρ : Type} (N : Nat) (K : KT ρ) : ∀ (M : Nat) (a0 : List (List Int)) (k1 : Int) (i5 : Int), f37w6 N M (f37s2 a0 k1 i5) K =
  laws_markIntSS.Z6L N (fun io100000 k1 => K (.exit 0) (f37s3 io100000 k1)) M a0 k1 i5
  | 0, _, _, _ => rfl
  | M + 1, a0, k1, i5 => viaRound (fun k => laws_markIntSS.Z7 N a0 k1 i5 k (fun io100000 k1 => K (.exit 0) (f37s3 io100000 k1))) (f37t7 N a0 k1 i5 (seqK (fun σ => f37w6 N M σ K) K)) (funext fun a0 => funext fun k1 => funext fun i5 => f37t6L N K M a0 k1 i5) (by kernel_rfl) (by kernel_rfl)
theorem f37t6 {ρ : Type} (N : Nat) (a0 : List (List Int)) (k1 : Int) (i5 : Int) (K : KT ρ) : f37i N f37c6 f37p6 (f37s2 a0 k1 i5) (joinK (some f37l3) K) =
  laws_markIntSS.Z6 N a0 k1 i5 (fun io100000 k1 => K (.exit 0) (f37s3 io100000 k1)) :=
  viaLoop (by kernel_rfl) (by kernel_rfl) (σ' := f37s2 a0 k1 i5) (by kernel_rfl) (f37t6L N (joinK (some f37l3) K) N a0 k1 i5) (by kernel_rfl)
noncomputable def f37c5 := codeAt (bodyOf Try.f37) [1,0,1]
noncomputable def f37p5 : Plan := .mk (some f37l3) none f37p6 .n
theorem f37t5 {ρ : Type} (N : Nat) (a0 : List (List Int)) (k1 : Int) (i5 : Int) (K : KT ρ) : f37i N f37c5 f37p5 (f37s2 a0 k1 i5) (joinK (some f37l3) K) =
  laws_markIntSS.Z5 N a0 k1 i5 (fun io100000 k1 => K .nrm (f37s3 io100000 k1)) :=
  viaBlock (by kernel_rfl) (by kernel_rfl) (f37t6 N a0 k1 i5 (blockK 0 (joinK (some f37l3) K))) (by kernel_rfl)
noncomputable def f37c3 := codeAt (bodyOf Try.f37) [1,0]
noncomputable def f37p3 : Plan := .mk (some f37l2) none .n f37p5
theorem f37t3 {ρ : Type} (N : Nat) (a0 : List (List Int)) (k1 : Int) (K : KT ρ) : f37i N f37c3 f37p3 (f37s1 a0 k1) (joinK (some f37l3) K) =
  laws_markIntSS.Z3 N a0 k1 (fun io100000 k1 => K .nrm (f37s3 io100000 k1)) :=
  viaSeq (fun k => laws_markIntSS.Z4 N a0 k1 k) (by kernel_rfl) (by kernel_rfl) (f37t4 N a0 k1 (seqK (fun σ => f37i N f37c5 f37p5 σ (joinK (some f37l3) K)) (joinK (some f37l3) K))) (funext fun a0 => funext fun k1 => funext fun i5 => f37t5 N a0 k1 i5 K) (by kernel_rfl) (by kernel_rfl)
noncomputable def f37c8 := codeAt (bodyOf Try.f37) [1,1]
theorem f37t8 {ρ : Type} (N : Nat) (io100000 : List (List Int)) (k1 : Int) (K : KT ρ) : f37i N f37c8 .n (f37s3 io100000 k1) (joinK (some f37lE) K) =
  laws_markIntSS.Z8 N io100000 k1 (fun io100000 t4 => K .ret (f37s4 io100000 t4)) := by kernel_rfl
noncomputable def f37c2 := codeAt (bodyOf Try.f37) [1]
noncomputable def f37p2 : Plan := .mk (some f37l3) none f37p3 .n
theorem f37t2 {ρ : Type} (N : Nat) (a0 : List (List Int)) (k1 : Int) (K : KT ρ) : f37i N f37c2 f37p2 (f37s1 a0 k1) (joinK (some f37lE) K) =
  laws_markIntSS.Z2 N a0 k1 (fun io100000 t4 => K .ret (f37s4 io100000 t4)) :=
  viaSeq (fun k => laws_markIntSS.Z3 N a0 k1 k) (by kernel_rfl) (by kernel_rfl) (f37t3 N a0 k1 (seqK (fun σ => f37i N f37c8 .n σ (joinK (some f37lE) K)) (joinK (some f37lE) K))) (funext fun io100000 => funext fun k1 => f37t8 N io100000 k1 K) (by kernel_rfl) (by kernel_rfl)
noncomputable def f37c0 := codeAt (bodyOf Try.f37) []
noncomputable def f37p0 : Plan := .mk (some f37l1) none .n f37p2
theorem f37t0 {ρ : Type} (N : Nat) (a0 : List (List Int)) (k1 : Int) (K : KT ρ) : f37i N f37c0 f37p0 (f37s0 a0 k1) (joinK (some f37lE) K) =
  laws_markIntSS.Z0 N a0 k1 (fun io100000 t4 => K .ret (f37s4 io100000 t4)) :=
  viaSeq (fun k => laws_markIntSS.Z1 N a0 k1 k) (by kernel_rfl) (by kernel_rfl) (f37t1 N a0 k1 (seqK (fun σ => f37i N f37c2 f37p2 σ (joinK (some f37lE) K)) (joinK (some f37lE) K))) (funext fun a0 => funext fun k1 => f37t2 N a0 k1 K) (by kernel_rfl) (by kernel_rfl)
theorem f37m (N : Nat) (a0 : List (List Int)) (k1 : Int) : f37i N f37c0 f37p0 (f37s0 a0 k1) (joinK (some f37lE) (finK tab f37sig Try.f37.results.toList)) = laws_markIntSS.Z0 N a0 k1 (fun io100000 t4 => some (io100000, (t4, ()))) :=
  (f37t0 N a0 k1 (finK tab f37sig Try.f37.results.toList)).trans (by kernel_rfl)
theorem f37ok (h : laws_markIntSS.Spec) : EntryOk Try.prog 37 e37 :=
  entry_of_code (sig := f37sig) (c := f37c0) (pl := f37p0) (je := (some f37lE)) (B := f37B) Try.func37 (by kernel_rfl) (by kernel_rfl) (by kernel_rfl) tabOk f37GOk (by kernel_rfl) (by kernel_rfl) (by kernel_rfl) (by kernel_rfl) fun X hb hp => by
    obtain ⟨a0, k1, _⟩ := X
    obtain ⟨N, h⟩ := h a0 k1 hb.1
    exact ⟨N, (f37m N a0 k1).trans (h N (Nat.le_refl N))⟩
theorem e37ok : EntryOk Try.prog 37 e37 := f37ok laws_markIntSS.ok
end Go.Fw
set_option linter.unusedVariables false
set_option linter.unusedSimpArgs false
set_option maxRecDepth 100000
namespace Go.Fw
open Go.Proofs
/-! ### loop.example/g03115/laws.heldIntS -/
noncomputable def f73sig : Sig := ⟨[⟨.sl 3 (.int .i64), false, false⟩, ⟨.int .i64, false, false⟩], [⟨.int .i64, false, false⟩]⟩
noncomputable def e73 : Entry := ⟨f73sig, none, fun X => ((), ((laws_heldIntS.g X.1 X.2.1), ()))⟩
noncomputable def f73G : Nat → Option Entry := (fun _ => none)
theorem f73GOk : GOk Try.prog f73G := GOk.nil
noncomputable def f73lE : Clean := ⟨[], [], [], [], []⟩
noncomputable def f73s0 (a0 : List Int) (k1 : Int) : St := initSt f73sig.ps (a0, (k1, ()))
noncomputable def f73s1 (a0 : List Int) (k1 : Int) : St := stOf [(0, .c (.sn 3 (.int .i64) a0 none)), (1, .c (.int .i64 k1))] [] []
noncomputable def f73l1 : Clean := ⟨[0, 1], [], [], [], []⟩
noncomputable def f73s2 (a0 : List Int) (k1 : Int) (i5 : Int) : St := stOf [(0, .c (.sn 3 (.int .i64) a0 none)), (1, .c (.int .i64 k1)), (5, .c (.int .i64 i5))] [] []
noncomputable def f73l2 : Clean := ⟨[0, 1, 5], [], [], [], []⟩
noncomputable def f73s3 (k1 : Int) : St := stOf [(1, .c (.int .i64 k1))] [] []
noncomputable def f73l3 : Clean := ⟨[1], [], [], [], []⟩
noncomputable def f73s4 (t4 : Int) : St := stOf [(4, .c (.int .i64 t4))] [] []
noncomputable def f73l4 : Clean := ⟨[4], [], [], [], []⟩
noncomputable def f73B : Nat → Option Clean := lookL [(0, f73l3), (1000000, f73l4)]
noncomputable abbrev f73i {ρ : Type} (N : Nat) (c : Code) (p : Plan) (σ : St) (K : KT ρ) : Option ρ := iCode f73G tab f73B N c p σ K
noncomputable def f73c1 := codeAt (bodyOf Try.f73) [0]
theorem f73t1 {ρ : Type} (N : Nat) (a0 : List Int) (k1 : Int) (K : KT ρ) : f73i N f73c1 .n (f73s0 a0 k1) (joinK (some f73l1) K) =
  laws_heldIntS.Z1 N a0 k1 (fun a0 k1 => K .nrm (f73s1 a0 k1)) := by kernel_rfl
noncomputable def f73c4 := codeAt (bodyOf Try.f73) [1,0,0]
theorem f73t4 {ρ : Type} (N : Nat) (a0 : List Int) (k1 : Int) (K : KT ρ) : f73i N f73c4 .n (f73s1 a0 k1) (joinK (some f73l2) K) =
  laws_heldIntS.Z4 N a0 k1 (fun a0 k1 i5 => K .nrm (f73s2 a0 k1 i5)) := by kernel_rfl
noncomputable def f73c7 := codeAt (bodyOf Try.f73) [1,0,1,0,0]
theorem f73t7 {ρ : Type} (N : Nat) (a0 : List Int) (k1 : Int) (i5 : Int) (K : KT ρ) : f73i N f73c7 .n (f73s2 a0 k1 i5) (joinK (some f73l2) K) =
  laws_heldIntS.Z7 N a0 k1 i5 (fun a0 k1 i5 => K .nrm (f73s2 a0 k1 i5)) (fun k1 => K (.exit 0) (f73s3 k1)) (fun t4 => K .ret (f73s4 t4)) := by kernel_rfl
noncomputable def f73c6 := codeAt (bodyOf Try.f73) [1,0,1,0]
noncomputable def f73p6 : Plan := .mk none (some f73l2) .n .n
noncomputable abbrev f73w6 {ρ : Type} (N : Nat) (M : Nat) (σ : St) (K : KT ρ) : Option ρ := loopC (fun σ K => f73i N f73c7 .n σ K) f73l2 M σ K
theorem f73t6L {ρ : Type} (N : Nat) (K : KT ρ) : ∀ (M : Nat) (a0 : List Int) (k1 : Int) (i5 : Int), f73w6 N M (f73s2 a0 k1 i5) K =
  laws_heldIntS.Z6L N (fun k1 => K (.exit 0) (f73s3 k1)) (fun t4 => K .ret (f73s4 t4)) M a0 k1 i5
  | 0, _, _, _ => rfl
  | M + 1, a0, k1, i5 => viaRound (fun k => laws_heldIntS.Z7 N a0 k1 i5 k (fun k1 => K (.exit 0) (f73s3 k1)) (fun t4 => K .ret (f73s4 t4))) (f73t7 N a0 k1 i5 (seqK (fun σ => f73w6 N M σ K) K)) (funext fun a0 => funext fun k1 => funext fun i5 => f73t6L N K M a0 k1 i5) (by kernel_rfl) (by kernel_rfl)
theorem f73t6 {ρ : Type} (N : Nat) (a0 : List Int) (k1 : Int) (i5 : Int) (K : KT ρ) : f73i N f73c6 f73p6 (f73s2 a0 k1 i5) (joinK (some f73l3) K) =
  laws_heldIntS.Z6 N a0 k1 i5 (fun k1 => K (.exit 0) (f73s3 k1)) (fun t4 => K .ret (f73s4 t4)) :=
  viaLoop (by kernel_rfl) (by kernel_rfl) (σ' := f73s2 a0 k1 i5) (by kernel_rfl) (f73t6L N (joinK (some f73l3) K) N a0 k1 i5) (by kernel_rfl)
noncomputable def f73c5 := codeAt (bodyOf Try.f73) [1,0,1]
noncomputable def f73p5 : Plan := .mk (some f73l3) none f73p6 .n
theorem f73t5 {ρ : Type} (N : Nat) (a0 : List Int) (k1 : Int) (i5 : Int) (K : KT ρ) : f73i N f73c5 f73p5 (f73s2 a0 k1 i5) (joinK (some f73l3) K) =
  laws_heldIntS.Z5 N a0 k1 i5 (fun k1 => K .nrm (f73s3 k1)) (fun t4 => K .ret (f73s4 t4)) :=
  viaBlock (by kernel_rfl) (by kernel_rfl) (f73t6 N a0 k1 i5 (blockK 0 (joinK (some f73l3) K))) (by kernel_rfl)
noncomputable def f73c3 := codeAt (bodyOf Try.f73) [1,0]
noncomputable def f73p3 : Plan := .mk (some f73l2) none .n f73p5
theorem f73t3 {ρ : Type} (N : Nat) (a0 : List Int) (k1 : Int) (K : KT ρ) : f73i N f73c3 f73p3 (f73s1 a0 k1) (joinK (some f73l3) K) =
  laws_heldIntS.Z3 N a0 k1 (fun k1 => K .nrm (f73s3 k1)) (fun t4 => K .ret (f73s4 t4)) :=
  viaSeq (fun k => laws_heldIntS.Z4 N a0 k1 k) (by kernel_rfl) (by kernel_rfl) (f73t4 N a0 k1 (seqK (fun σ => f73i N f73c5 f73p5 σ (joinK (some f73l3) K)) (joinK (some f73l3) K))) (funext fun a0 => funext fun k1 => funext fun i5 => f73t5 N a0 k1 i5 K) (by kernel_rfl) (by kernel_rfl)
noncomputable def f73c8 := codeAt (bodyOf Try.f73) [1,1]
theorem f73t8 {ρ : Type} (N : Nat) (k1 : Int) (K : KT ρ) : f73i N f73c8 .n (f73s3 k1) (joinK (some f73lE) K) =
  laws_heldIntS.Z8 N k1 (fun t4 => K .ret (f73s4 t4)) := by kernel_rfl
noncomputable def f73c2 := codeAt (bodyOf Try.f73) [1]
noncomputable def f73p2 : Plan := .mk (some f73l3) none f73p3 .n
theorem f73t2 {ρ : Type} (N : Nat) (a0 : List Int) (k1 : Int) (K : KT ρ) : f73i N f73c2 f73p2 (f73s1 a0 k1) (joinK (some f73lE) K) =
  laws_heldIntS.Z2 N a0 k1 (fun t4 => K .ret (f73s4 t4)) :=
  viaSeq (fun k => laws_heldIntS.Z3 N a0 k1 k (fun t4 => K .ret (f73s4 t4))) (by kernel_rfl) (by kernel_rfl) (f73t3 N a0 k1 (seqK (fun σ => f73i N f73c8 .n σ (joinK (some f73lE) K)) (joinK (some f73lE) K))) (funext fun k1 => f73t8 N k1 K) (by kernel_rfl) (by kernel_rfl)
noncomputable def f73c0 := codeAt (bodyOf Try.f73) []
noncomputable def f73p0 : Plan := .mk (some f73l1) none .n f73p2
theorem f73t0 {ρ : Type} (N : Nat) (a0 : List Int) (k1 : Int) (K : KT ρ) : f73i N f73c0 f73p0 (f73s0 a0 k1) (joinK (some f73lE) K) =
  laws_heldIntS.Z0 N a0 k1 (fun t4 => K .ret (f73s4 t4)) :=
  viaSeq (fun k => laws_heldIntS.Z1 N a0 k1 k) (by kernel_rfl) (by kernel_rfl) (f73t1 N a0 k1 (seqK (fun σ => f73i N f73c2 f73p2 σ (joinK (some f73lE) K)) (joinK (some f73lE) K))) (funext fun a0 => funext fun k1 => f73t2 N a0 k1 K) (by kernel_rfl) (by kernel_rfl)
theorem f73m (N : Nat) (a0 : List Int) (k1 : Int) : f73i N f73c0 f73p0 (f73s0 a0 k1) (joinK (some f73lE) (finK tab f73sig Try.f73.results.toList)) = laws_heldIntS.Z0 N a0 k1 (fun t4 => some ((), (t4, ()))) :=
  (f73t0 N a0 k1 (finK tab f73sig Try.f73.results.toList)).trans (by kernel_rfl)
theorem f73ok (h : laws_heldIntS.Spec) : EntryOk Try.prog 73 e73 :=
  entry_of_code (sig := f73sig) (c := f73c0) (pl := f73p0) (je := (some f73lE)) (B := f73B) Try.func73 (by kernel_rfl) (by kernel_rfl) (by kernel_rfl) tabOk f73GOk (by kernel_rfl) (by kernel_rfl) (by kernel_rfl) (by kernel_rfl) fun X hb hp => by
    obtain ⟨a0, k1, _⟩ := X
    obtain ⟨N, h⟩ := h a0 k1 hb.1
    exact ⟨N, (f73m N a0 k1).trans (h N (Nat.le_refl N))⟩
theorem e73ok : EntryOk Try.prog 73 e73 := f73ok laws_heldIntS.ok
end Go.Fw
set_option linter.unusedVariables false
set_option linter.unusedSimpArgs false
set_option maxRecDepth 100000
namespace Go.Fw
open Go.Proofs
/-! ### loop.example/g03115/laws.heldIntSS -/
noncomputable def f38sig : Sig := ⟨[⟨.sl 24 (.sl 3 (.int .i64)), false, false⟩, ⟨.int .i64, false, false⟩], [⟨.int .i64, false, false⟩]⟩
noncomputable def e38 : Entry := ⟨f38sig, none, fun X => ((), ((laws_heldIntSS.g X.1 X.2.1), ()))⟩
noncomputable def f38G : Nat → Option Entry := addG (fun _ => none) 73 e73
theorem f38GOk : GOk Try.prog f38G := (GOk.nil).add e73ok (by kernel_rfl)
noncomputable def f38lE : Clean := ⟨[], [], [], [], []⟩
noncomputable def f38s0 (a0 : List (List Int)) (k1 : Int) : St := initSt f38sig.ps (a0, (k1, ()))
noncomputable def f38s1 (a0 : List (List Int)) (k1 : Int) : St := stOf [(0, .c (.sn 24 (.sl 3 (.int .i64)) a0 none)), (1, .c (.int .i64 k1))] [] []
noncomputable def f38l1 : Clean := ⟨[0, 1], [], [], [], []⟩
noncomputable def f38s2 (a0 : List (List Int)) (k1 : Int) (i5 : Int) : St := stOf [(0, .c (.sn 24 (.sl 3 (.int .i64)) a0 none)), (1, .c (.int .i64 k1)), (5, .c (.int .i64 i5))] [] []
noncomputable def f38l2 : Clean := ⟨[0, 1, 5], [], [], [], []⟩
noncomputable def f38s3 (k1 : Int) : St := stOf [(1, .c (.int .i64 k1))] [] []
noncomputable def f38l3 : Clean := ⟨[1], [], [], [], []⟩
noncomputable def f38s4 (t4 : Int) : St := stOf [(4, .c (.int .i64 t4))] [] []
noncomputable def f38l4 : Clean := ⟨[4], [], [], [], []⟩
noncomputable def f38B : Nat → Option Clean := lookL [(0, f38l3), (1000000, f38l4)]
noncomputable abbrev f38i {ρ : Type} (N : Nat) (c : Code) (p : Plan) (σ : St) (K : KT ρ) : Option ρ := iCode f38G tab f38B N c p σ K
noncomputable def f38c1 := codeAt (bodyOf Try.f38) [0]
theorem f38t1 {ρ : Type} (N : Nat) (a0 : List (List Int)) (k1 : Int) (K : KT ρ) : f38i N f38c1 .n (f38s0 a0 k1) (joinK (some f38l1) K) =
  laws_heldIntSS.Z1 N a0 k1 (fun a0 k1 => K .nrm (f38s1 a0 k1)) := by kernel_rfl
noncomputable def f38c4 := codeAt (bodyOf Try.f38) [1,0,0]
theorem f38t4 {ρ : Type} (N : Nat) (a0 : List (List Int)) (k1 : Int) (K : KT ρ) : f38i N f38c4 .n (f38s1 a0 k1) (joinK (some f38l2) K) =
  laws_heldIntSS.Z4 N a0 k1 (fun a0 k1 i5 => K .nrm (f38s2 a0 k1 i5)) := by kernel_rfl
noncomputable def f38c7 := codeAt (bodyOf Try.f38) [1,0,1,0,0]
theorem f38t7 {ρ : Type} (N : Nat) (a0 : List (List Int)) (k1 : Int) (i5 : Int) (K : KT ρ) : f38i N f38c7 .n (f38s2 a0 k1 i5) (joinK (some f38l2) K) =
  laws_heldIntSS.Z7 N a0 k1 i5 (fun a0 k1 i5 => K .nrm (f38s2 a0 k1 i5)) (fun k1 => K (.exit 0) (f38s3 k1)) (fun t4 => K .ret (f38s4 t4)) := by kernel_rfl
noncomputable def f38c6 := codeAt (bodyOf Try.f38) [1,0,1,0]
noncomputable def f38p6 : Plan := .mk none (some f38l2) .n .n
noncomputable abbrev f38w6 {ρ : Type} (N : Nat) (M : Nat) (σ : St) (K : KT ρ) : Option ρ := loopC (fun σ K => f38i N f38c7 .n σ K) f38l2 M σ K
theorem f38t6L {ρ : Type} (N : Nat) (K : KT ρ) : ∀ (M : Nat) (a0 : List (List Int)) (k1 : Int) (i5 : Int), f38w6 N M (f38s2 a0 k1 i5) K =
  laws_heldIntSS.Z6L N (fun k1 => K (.exit 0) (f38s3 k1)) (fun t4 => K .ret (f38s4 t4)) M a0 k1 i5
  | 0, _, _, _ => rfl
  | M + 1, a0, k1, i5 => viaRound (fun k => laws_heldIntSS.Z7 N a0 k1 i5 k (fun k1 => K (.exit 0) (f38s3 k1)) (fun t4 => K .ret (f38s4 t4))) (f38t7 N a0 k1 i5 (seqK (fun σ => f38w6 N M σ K) K)) (funext fun a0 => funext fun k1 => funext fun i5 => f38t6L N K M a0 k1 i5) (by kernel_rfl) (by kernel_rfl)
theorem f38t6 {ρ : Type} (N : Nat) (a0 : List (List Int)) (k1 : Int) (i5 : Int) (K : KT ρ) : f38i N f38c6 f38p6 (f38s2 a0 k1 i5) (joinK (some f38l3) K) =
  laws_heldIntSS.Z6 N a0 k1 i5 (fun k1 => K (.exit 0) (f38s3 k1)) (fun t4 => K .ret (f38s4 t4)) :=
  viaLoop (by kernel_rfl) (by kernel_rfl) (σ' := f38s2 a0 k1 i5) (by kernel_rfl) (f38t6L N (joinK (some f38l3) K) N a0 k1 i5) (by kernel_rfl)
noncomputable def f38c5 := codeAt (bodyOf Try.f38) [1,0,1]
noncomputable def f38p5 : Plan := .mk (some f38l3) none f38p6 .n
theorem f38t5 {ρ : Type} (N : Nat) (a0 : List (List Int)) (k1 : Int) (i5 : Int) (K : KT ρ) : f38i N f38c5 f38p5 (f38s2 a0 k1 i5) (joinK (some f38l3) K) =
  laws_heldIntSS.Z5 N a0 k1 i5 (fun k1 => K .nrm (f38s3 k1)) (fun t4 => K .ret (f38s4 t4)) :=
  viaBlock (by kernel_rfl) (by kernel_rfl) (f38t6 N a0 k1 i5 (blockK 0 (joinK (some f38l3) K))) (by kernel_rfl)
noncomputable def f38c3 := codeAt (bodyOf Try.f38) [1,0]
noncomputable def f38p3 : Plan := .mk (some f38l2) none .n f38p5
theorem f38t3 {ρ : Type} (N : Nat) (a0 : List (List Int)) (k1 : Int) (K : KT ρ) : f38i N f38c3 f38p3 (f38s1 a0 k1) (joinK (some f38l3) K) =
  laws_heldIntSS.Z3 N a0 k1 (fun k1 => K .nrm (f38s3 k1)) (fun t4 => K .ret (f38s4 t4)) :=
  viaSeq (fun k => laws_heldIntSS.Z4 N a0 k1 k) (by kernel_rfl) (by kernel_rfl) (f38t4 N a0 k1 (seqK (fun σ => f38i N f38c5 f38p5 σ (joinK (some f38l3) K)) (joinK (some f38l3) K))) (funext fun a0 => funext fun k1 => funext fun i5 => f38t5 N a0 k1 i5 K) (by kernel_rfl) (by kernel_rfl)
noncomputable def f38c8 := codeAt (bodyOf Try.f38) [1,1]
theorem f38t8 {ρ : Type} (N : Nat) (k1 : Int) (K : KT ρ) : f38i N f38c8 .n (f38s3 k1) (joinK (some f38lE) K) =
  laws_heldIntSS.Z8 N k1 (fun t4 => K .ret (f38s4 t4)) := by kernel_rfl
noncomputable def f38c2 := codeAt (bodyOf Try.f38) [1]
noncomputable def f38p2 : Plan := .mk (some f38l3) none f38p3 .n
theorem f38t2 {ρ : Type} (N : Nat) (a0 : List (List Int)) (k1 : Int) (K : KT ρ) : f38i N f38c2 f38p2 (f38s1 a0 k1) (joinK (some f38lE) K) =
  laws_heldIntSS.Z2 N a0 k1 (fun t4 => K .ret (f38s4 t4)) :=
  viaSeq (fun k => laws_heldIntSS.Z3 N a0 k1 k (fun t4 => K .ret (f38s4 t4))) (by kernel_rfl) (by kernel_rfl) (f38t3 N a0 k1 (seqK (fun σ => f38i N f38c8 .n σ (joinK (some f38lE) K)) (joinK (some f38lE) K))) (funext fun k1 => f38t8 N k1 K) (by kernel_rfl) (by kernel_rfl)
noncomputable def f38c0 := codeAt (bodyOf Try.f38) []
noncomputable def f38p0 : Plan := .mk (some f38l1) none .n f38p2
theorem f38t0 {ρ : Type} (N : Nat) (a0 : List (List Int)) (k1 : Int) (K : KT ρ) : f38i N f38c0 f38p0 (f38s0 a0 k1) (joinK (some f38lE) K) =
  laws_heldIntSS.Z0 N a0 k1 (fun t4 => K .ret (f38s4 t4)) :=
  viaSeq (fun k => laws_heldIntSS.Z1 N a0 k1 k) (by kernel_rfl) (by kernel_rfl) (f38t1 N a0 k1 (seqK (fun σ => f38i N f38c2 f38p2 σ (joinK (some f38lE) K)) (joinK (some f38lE) K))) (funext fun a0 => funext fun k1 => f38t2 N a0 k1 K) (by kernel_rfl) (by kernel_rfl)
theorem f38m (N : Nat) (a0 : List (List Int)) (k1 : Int) : f38i N f38c0 f38p0 (f38s0 a0 k1) (joinK (some f38lE) (finK tab f38sig Try.f38.results.toList)) = laws_heldIntSS.Z0 N a0 k1 (fun t4 => some ((), (t4, ()))) :=
  (f38t0 N a0 k1 (finK tab f38sig Try.f38.results.toList)).trans (by kernel_rfl)
theorem f38ok (h : laws_heldIntSS.Spec) : EntryOk Try.prog 38 e38 :=
  entry_of_code (sig := f38sig) (c := f38c0) (pl := f38p0) (je := (some f38lE)) (B := f38B) Try.func38 (by kernel_rfl) (by kernel_rfl) (by kernel_rfl) tabOk f38GOk (by kernel_rfl) (by kernel_rfl) (by kernel_rfl) (by kernel_rfl) fun X hb hp => by
    obtain ⟨a0, k1, _⟩ := X
    obtain ⟨N, h⟩ := h a0 k1 hb.1
    exact ⟨N, (f38m N a0 k1).trans (h N (Nat.le_refl N))⟩
theorem e38ok : EntryOk Try.prog 38 e38 := f38ok laws_heldIntSS.ok
end Go.Fw
set_option linter.unusedVariables false
set_option linter.unusedSimpArgs false
set_option maxRecDepth 100000
namespace Go.Fw
open Go.Proofs
/-! ### loop.example/g03115/laws.FnExactCartanOf -/
noncomputable def f6sig : Sig := ⟨[⟨.pair (.int .i64) (.pair (.int .i64) (.sl 3 (.int .i64))), true, false⟩], [⟨.bool, false, false⟩]⟩
noncomputable def e6 : Entry := ⟨f6sig, none, fun X => ((), ((laws_FnExactCartanOf.g X.1), ()))⟩
noncomputable def f6G : Nat → Option Entry := addG (addG (addG (addG (addG (addG (addG (addG (addG (fun _ => none) 27 e27) 29 e29) 31 e31) 32 e32) 34 e34) 35 e35) 36 e36) 37 e37) 38 e38
theorem f6GOk : GOk Try.prog f6G := (((((((((GOk.nil).add e27ok (by kernel_rfl)).add e29ok (by kernel_rfl)).add e31ok (by kernel_rfl)).add e32ok (by kernel_rfl)).add e34ok (by kernel_rfl)).add e35ok (by kernel_rfl)).add e36ok (by kernel_rfl)).add e37ok (by kernel_rfl)).add e38ok (by kernel_rfl)
noncomputable def f6lE : Clean := ⟨[], [], [], [], []⟩
noncomputable def f6s0 (aM0 : Int × Int × List Int) : St := initSt f6sig.ps (aM0, ())
noncomputable def f6s1 (t2 : Bool) : St := stOf [(2, .c (.bool t2))] [] []
noncomputable def f6l1 : Clean := ⟨[2], [], [], [], []⟩
noncomputable def f6B : Nat → Option Clean := lookL [(1000000, f6l1)]
noncomputable abbrev f6i {ρ : Type} (N : Nat) (c : Code) (p : Plan) (σ : St) (K : KT ρ) : Option ρ := iCode f6G tab f6B N c p σ K
noncomputable def f6c0 := codeAt (bodyOf Try.f6) []
theorem f6t0 {ρ : Type} (N : Nat) (aM0 : Int × Int × List Int) (K : KT ρ) : f6i N f6c0 .n (f6s0 aM0) (joinK (some f6lE) K) =
  laws_FnExactCartanOf.Z0 N aM0 (fun t2 => K .ret (f6s1 t2)) := by kernel_rfl
theorem f6m (N : Nat) (aM0 : Int × Int × List Int) : f6i N f6c0 .n (f6s0 aM0) (joinK (some f6lE) (finK tab f6sig Try.f6.results.toList)) = laws_FnExactCartanOf.Z0 N aM0 (fun t2 => some ((), (t2, ()))) :=
  (f6t0 N aM0 (finK tab f6sig Try.f6.results.toList)).trans (by kernel_rfl)
theorem f6ok (h : laws_FnExactCartanOf.Spec) : EntryOk Try.prog 6 e6 :=
  entry_of_code (sig := f6sig) (c := f6c0) (pl := .n) (je := (some f6lE)) (B := f6B) Try.func6 (by kernel_rfl) (by kernel_rfl) (by kernel_rfl) tabOk f6GOk (by kernel_rfl) (by kernel_rfl) (by kernel_rfl) (by kernel_rfl) fun X hb hp => by
    obtain ⟨aM0, _⟩ := X
    obtain ⟨N, h⟩ := h aM0 hb.1
    exact ⟨N, (f6m N aM0).trans (h N (Nat.le_refl N))⟩
theorem e6ok : EntryOk Try.prog 6 e6 := f6ok laws_FnExactCartanOf.ok
end Go.Fw
