/- The ties: the program's text comes to the plain functions. Nothing is assumed. -/
import Derived.Test.YtakkbbpdfmkbnaaPuFnExactCVectorsOfb
import Derived.Test.YtakkbbpdfmkbnaaTiFnExactCVectorsOfa
import Derived.Test.YtakkbbpdfmkbnaaTiFnExactCVectorsOfb
set_option linter.unusedVariables false
set_option linter.unusedSimpArgs false
set_option maxRecDepth 100000
namespace Go.Fw
open Go.Proofs
/-! ### loop.example/g03115/laws.FnExactCVectorsOf -/
noncomputable def f11sig : Sig := ⟨[⟨.pair (.int .i64) (.pair (.int .i64) (.sl 3 (.int .i64))), true, false⟩, ⟨.sl 3 (.int .i64), false, false⟩], [⟨.bool, false, false⟩]⟩
noncomputable def e11 : Entry := ⟨f11sig, none, fun X => ((), ((laws_FnExactCVectorsOf.g X.1 X.2.1), ()))⟩
noncomputable def f11G : Nat → Option Entry := addG (addG (addG (addG (addG (addG (addG (addG (addG (addG (addG (addG (fun _ => none) 15 e15) 27 e27) 29 e29) 31 e31) 32 e32) 36 e36) 37 e37) 38 e38) 42 e42) 44 e44) 45 e45) 48 e48
theorem f11GOk : GOk Try.prog f11G := ((((((((((((GOk.nil).add e15ok (by kernel_rfl)).add e27ok (by kernel_rfl)).add e29ok (by kernel_rfl)).add e31ok (by kernel_rfl)).add e32ok (by kernel_rfl)).add e36ok (by kernel_rfl)).add e37ok (by kernel_rfl)).add e38ok (by kernel_rfl)).add e42ok (by kernel_rfl)).add e44ok (by kernel_rfl)).add e45ok (by kernel_rfl)).add e48ok (by kernel_rfl)
noncomputable def f11lE : Clean := ⟨[], [], [], [], []⟩
noncomputable def f11s0 (v0 : Int × Int × List Int) (v1 : List Int) : St := initSt f11sig.ps (v0, (v1, ()))
noncomputable def f11s1 (v1 : List Int) (v2_0 v2_1 : Int) (v2_2 : List Int) : St := stOf [(1, .c (.sn 3 (.int .i64) v1 none)), (2, .c (.box 2 0))] [(2, (41, [.int .i64 v2_0, .int .i64 v2_1, .sn 3 (.int .i64) v2_2 none]))] []
noncomputable def f11l1 : Clean := ⟨[1, 2], [2], [], [], []⟩
noncomputable def f11s2 (v1 : List Int) (v5 v2_0 v2_1 : Int) (v2_2 : List Int) : St := stOf [(1, .c (.sn 3 (.int .i64) v1 none)), (2, .c (.box 2 0)), (5, .c (.int .i64 v5))] [(2, (41, [.int .i64 v2_0, .int .i64 v2_1, .sn 3 (.int .i64) v2_2 none]))] []
noncomputable def f11l2 : Clean := ⟨[1, 2, 5], [2], [], [], []⟩
noncomputable def f11s3 (v6 : List (List Int)) (v1 : List Int) (v7 : Bool) (v2_0 v2_1 : Int) (v2_2 : List Int) : St := stOf [(1, .c (.sn 3 (.int .i64) v1 none)), (2, .c (.box 2 0)), (6, .c (.own 1000384)), (7, .c (.bool v7))] [(2, (41, [.int .i64 v2_0, .int .i64 v2_1, .sn 3 (.int .i64) v2_2 none]))] [(1000384, (⟨24, .sl 3 (.int .i64), v6, true, false⟩ : Row))]
noncomputable def f11l3 : Clean := ⟨[1, 2, 6, 7], [2], [], [], [(⟨false, 6, 0⟩, 1000384)]⟩
noncomputable def f11s4 (v6 : List (List Int)) (v8_2 v1 : List Int) (v7 : Bool) (v2_0 v2_1 : Int) (v2_2 : List Int) (v8_0 v8_1 : Int) : St := stOf [(1, .c (.sn 3 (.int .i64) v1 none)), (2, .c (.box 2 0)), (6, .c (.own 1000384)), (7, .c (.bool v7)), (8, .c (.box 8 0))] [(2, (41, [.int .i64 v2_0, .int .i64 v2_1, .sn 3 (.int .i64) v2_2 none])), (8, (26, [.int .i64 v8_0, .int .i64 v8_1, .own 20000514]))] [(1000384, (⟨24, .sl 3 (.int .i64), v6, true, false⟩ : Row)), (20000514, (⟨3, .int .i64, v8_2, true, false⟩ : Row))]
noncomputable def f11l4 : Clean := ⟨[1, 2, 6, 7, 8], [2, 8], [], [], [(⟨false, 6, 0⟩, 1000384), (⟨true, 8, 2⟩, 20000514)]⟩
noncomputable def f11s5 (v6 : List (List Int)) (v9 v8_2 v1 : List Int) (v7 : Bool) (v2_0 v2_1 : Int) (v2_2 : List Int) (v8_0 v8_1 : Int) : St := stOf [(1, .c (.sn 3 (.int .i64) v1 none)), (2, .c (.box 2 0)), (6, .c (.own 1000384)), (7, .c (.bool v7)), (8, .c (.box 8 0)), (9, .c (.own 1000576))] [(2, (41, [.int .i64 v2_0, .int .i64 v2_1, .sn 3 (.int .i64) v2_2 none])), (8, (26, [.int .i64 v8_0, .int .i64 v8_1, .own 20000514]))] [(1000384, (⟨24, .sl 3 (.int .i64), v6, true, false⟩ : Row)), (1000576, (⟨3, .int .i64, v9, true, false⟩ : Row)), (20000514, (⟨3, .int .i64, v8_2, true, false⟩ : Row))]
noncomputable def f11l5 : Clean := ⟨[1, 2, 6, 7, 8, 9], [2, 8], [], [], [(⟨false, 6, 0⟩, 1000384), (⟨false, 9, 0⟩, 1000576), (⟨true, 8, 2⟩, 20000514)]⟩
noncomputable def f11s6 (v6 : List (List Int)) (v9 : List Int) (v10 : List (List Int)) (v8_2 v1 : List Int) (v7 v11 : Bool) (v2_0 v2_1 : Int) (v2_2 : List Int) (v8_0 v8_1 : Int) : St := stOf [(1, .c (.sn 3 (.int .i64) v1 none)), (2, .c (.box 2 0)), (6, .c (.own 1000384)), (7, .c (.bool v7)), (8, .c (.box 8 0)), (9, .c (.own 1000576)), (10, .c (.own 1000640)), (11, .c (.bool v11))] [(2, (41, [.int .i64 v2_0, .int .i64 v2_1, .sn 3 (.int .i64) v2_2 none])), (8, (26, [.int .i64 v8_0, .int .i64 v8_1, .own 20000514]))] [(1000384, (⟨24, .sl 3 (.int .i64), v6, true, false⟩ : Row)), (1000576, (⟨3, .int .i64, v9, true, false⟩ : Row)), (1000640, (⟨24, .sl 3 (.int .i64), v10, true, false⟩ : Row)), (20000514, (⟨3, .int .i64, v8_2, true, false⟩ : Row))]
noncomputable def f11l6 : Clean := ⟨[1, 2, 6, 7, 8, 9, 10, 11], [2, 8], [], [], [(⟨false, 6, 0⟩, 1000384), (⟨false, 9, 0⟩, 1000576), (⟨false, 10, 0⟩, 1000640), (⟨true, 8, 2⟩, 20000514)]⟩
noncomputable def f11s7 (v6 : List (List Int)) (v9 : List Int) (v10 : List (List Int)) (v8_2 v1 : List Int) (v7 v11 : Bool) (v12 v2_0 v2_1 : Int) (v2_2 : List Int) (v8_0 v8_1 : Int) : St := stOf [(1, .c (.sn 3 (.int .i64) v1 none)), (2, .c (.box 2 0)), (6, .c (.own 1000384)), (7, .c (.bool v7)), (8, .c (.box 8 0)), (9, .c (.own 1000576)), (10, .c (.own 1000640)), (11, .c (.bool v11)), (12, .c (.int .i64 v12))] [(2, (41, [.int .i64 v2_0, .int .i64 v2_1, .sn 3 (.int .i64) v2_2 none])), (8, (26, [.int .i64 v8_0, .int .i64 v8_1, .own 20000514]))] [(1000384, (⟨24, .sl 3 (.int .i64), v6, true, false⟩ : Row)), (1000576, (⟨3, .int .i64, v9, true, false⟩ : Row)), (1000640, (⟨24, .sl 3 (.int .i64), v10, true, false⟩ : Row)), (20000514, (⟨3, .int .i64, v8_2, true, false⟩ : Row))]
noncomputable def f11l7 : Clean := ⟨[1, 2, 6, 7, 8, 9, 10, 11, 12], [2, 8], [], [], [(⟨false, 6, 0⟩, 1000384), (⟨false, 9, 0⟩, 1000576), (⟨false, 10, 0⟩, 1000640), (⟨true, 8, 2⟩, 20000514)]⟩
noncomputable def f11s8 (v6 : List (List Int)) (v9 : List Int) (v10 : List (List Int)) (v1 : List Int) (v7 v11 : Bool) (v12 v2_0 v2_1 : Int) (v2_2 : List Int) : St := stOf [(1, .c (.sn 3 (.int .i64) v1 none)), (2, .c (.box 2 0)), (6, .c (.own 1000384)), (7, .c (.bool v7)), (9, .c (.own 1000576)), (10, .c (.own 1000640)), (11, .c (.bool v11)), (12, .c (.int .i64 v12))] [(2, (41, [.int .i64 v2_0, .int .i64 v2_1, .sn 3 (.int .i64) v2_2 none]))] [(1000384, (⟨24, .sl 3 (.int .i64), v6, true, false⟩ : Row)), (1000576, (⟨3, .int .i64, v9, true, false⟩ : Row)), (1000640, (⟨24, .sl 3 (.int .i64), v10, true, false⟩ : Row))]
noncomputable def f11l8 : Clean := ⟨[1, 2, 6, 7, 9, 10, 11, 12], [2], [], [], [(⟨false, 6, 0⟩, 1000384), (⟨false, 9, 0⟩, 1000576), (⟨false, 10, 0⟩, 1000640)]⟩
noncomputable def f11s9 (v6 v10 : List (List Int)) (v1 : List Int) (v7 v11 : Bool) (v12 v2_0 v2_1 : Int) (v2_2 : List Int) : St := stOf [(1, .c (.sn 3 (.int .i64) v1 none)), (2, .c (.box 2 0)), (6, .c (.own 1000384)), (7, .c (.bool v7)), (10, .c (.own 1000640)), (11, .c (.bool v11)), (12, .c (.int .i64 v12))] [(2, (41, [.int .i64 v2_0, .int .i64 v2_1, .sn 3 (.int .i64) v2_2 none]))] [(1000384, (⟨24, .sl 3 (.int .i64), v6, true, false⟩ : Row)), (1000640, (⟨24, .sl 3 (.int .i64), v10, true, false⟩ : Row))]
noncomputable def f11l9 : Clean := ⟨[1, 2, 6, 7, 10, 11, 12], [2], [], [], [(⟨false, 6, 0⟩, 1000384), (⟨false, 10, 0⟩, 1000640)]⟩
noncomputable def f11s10 (v6 v10 : List (List Int)) (v1 : List Int) (v7 : Bool) (v2_0 v2_1 : Int) (v2_2 : List Int) : St := stOf [(1, .c (.sn 3 (.int .i64) v1 none)), (2, .c (.box 2 0)), (6, .c (.own 1000384)), (7, .c (.bool v7)), (10, .c (.own 1000640))] [(2, (41, [.int .i64 v2_0, .int .i64 v2_1, .sn 3 (.int .i64) v2_2 none]))] [(1000384, (⟨24, .sl 3 (.int .i64), v6, true, false⟩ : Row)), (1000640, (⟨24, .sl 3 (.int .i64), v10, true, false⟩ : Row))]
noncomputable def f11l10 : Clean := ⟨[1, 2, 6, 7, 10], [2], [], [], [(⟨false, 6, 0⟩, 1000384), (⟨false, 10, 0⟩, 1000640)]⟩
noncomputable def f11s11 (v4 : Bool) : St := stOf [(4, .c (.bool v4))] [] []
noncomputable def f11l11 : Clean := ⟨[4], [], [], [], []⟩
noncomputable def f11B : Nat → Option Clean := lookL [(1000000, f11l11)]
noncomputable abbrev f11i {ρ : Type} (N : Nat) (c : Code) (p : Plan) (σ : St) (K : KT ρ) : Option ρ := iCode f11G tab f11B N c p σ K
noncomputable def f11c1 := codeAt (bodyOf Try.f11) [0]
theorem f11t1 {ρ : Type} (N : Nat) (v0 : Int × Int × List Int) (v1 : List Int) (K : KT ρ) : f11i N f11c1 .n (f11s0 v0 v1) (joinK (some f11l1) K) =
  laws_FnExactCVectorsOf.Z1 N v0 v1 (fun v1 v2_0 v2_1 v2_2 => K .nrm (f11s1 v1 v2_0 v2_1 v2_2)) := by kernel_rfl
noncomputable def f11c3 := codeAt (bodyOf Try.f11) [1,0]
theorem f11t3 {ρ : Type} (N : Nat) (v1 : List Int) (v2_0 v2_1 : Int) (v2_2 : List Int) (K : KT ρ) : f11i N f11c3 .n (f11s1 v1 v2_0 v2_1 v2_2) (joinK (some f11l1) K) =
  laws_FnExactCVectorsOf.Z3 N v1 v2_0 v2_1 v2_2 (fun v1 v2_0 v2_1 v2_2 => K .nrm (f11s1 v1 v2_0 v2_1 v2_2)) (fun v4 => K .ret (f11s11 v4)) := by kernel_rfl
noncomputable def f11c5 := codeAt (bodyOf Try.f11) [1,1,0]
theorem f11t5 {ρ : Type} (N : Nat) (v1 : List Int) (v2_0 v2_1 : Int) (v2_2 : List Int) (K : KT ρ) : f11i N f11c5 .n (f11s1 v1 v2_0 v2_1 v2_2) (joinK (some f11l2) K) =
  laws_FnExactCVectorsOf.Z5 N v1 v2_0 v2_1 v2_2 (fun v1 v5 v2_0 v2_1 v2_2 => K .nrm (f11s2 v1 v5 v2_0 v2_1 v2_2)) := by kernel_rfl
noncomputable def f11c7 := codeAt (bodyOf Try.f11) [1,1,1,0]
theorem f11t7 {ρ : Type} (N : Nat) (v1 : List Int) (v5 v2_0 v2_1 : Int) (v2_2 : List Int) (K : KT ρ) : f11i N f11c7 .n (f11s2 v1 v5 v2_0 v2_1 v2_2) (joinK (some f11l2) K) =
  laws_FnExactCVectorsOf.Z7 N v1 v5 v2_0 v2_1 v2_2 (fun v1 v5 v2_0 v2_1 v2_2 => K .nrm (f11s2 v1 v5 v2_0 v2_1 v2_2)) := by kernel_rfl
noncomputable def f11c9 := codeAt (bodyOf Try.f11) [1,1,1,1,0]
theorem f11t9 {ρ : Type} (N : Nat) (v1 : List Int) (v5 v2_0 v2_1 : Int) (v2_2 : List Int) (K : KT ρ) : f11i N f11c9 .n (f11s2 v1 v5 v2_0 v2_1 v2_2) (joinK (some f11l1) K) =
  laws_FnExactCVectorsOf.Z9 N v1 v5 v2_0 v2_1 v2_2 (fun v1 v2_0 v2_1 v2_2 => K .nrm (f11s1 v1 v2_0 v2_1 v2_2)) (fun v4 => K .ret (f11s11 v4)) := by kernel_rfl
noncomputable def f11c11 := codeAt (bodyOf Try.f11) [1,1,1,1,1,0]
theorem f11t11 {ρ : Type} (N : Nat) (v1 : List Int) (v2_0 v2_1 : Int) (v2_2 : List Int) (K : KT ρ) : f11i N f11c11 .n (f11s1 v1 v2_0 v2_1 v2_2) (joinK (some f11l3) K) =
  laws_FnExactCVectorsOf.Z11 N v1 v2_0 v2_1 v2_2 (fun v6 v1 v7 v2_0 v2_1 v2_2 => K .nrm (f11s3 v6 v1 v7 v2_0 v2_1 v2_2)) := by kernel_rfl
noncomputable def f11c13 := codeAt (bodyOf Try.f11) [1,1,1,1,1,1,0]
theorem f11t13 {ρ : Type} (N : Nat) (v6 : List (List Int)) (v1 : List Int) (v7 : Bool) (v2_0 v2_1 : Int) (v2_2 : List Int) (K : KT ρ) : f11i N f11c13 .n (f11s3 v6 v1 v7 v2_0 v2_1 v2_2) (joinK (some f11l4) K) =
  laws_FnExactCVectorsOf.Z13 N v6 v1 v7 v2_0 v2_1 v2_2 (fun v6 v8_2 v1 v7 v2_0 v2_1 v2_2 v8_0 v8_1 => K .nrm (f11s4 v6 v8_2 v1 v7 v2_0 v2_1 v2_2 v8_0 v8_1)) := by kernel_rfl
noncomputable def f11c15 := codeAt (bodyOf Try.f11) [1,1,1,1,1,1,1,0]
theorem f11t15 {ρ : Type} (N : Nat) (v6 : List (List Int)) (v8_2 v1 : List Int) (v7 : Bool) (v2_0 v2_1 : Int) (v2_2 : List Int) (v8_0 v8_1 : Int) (K : KT ρ) : f11i N f11c15 .n (f11s4 v6 v8_2 v1 v7 v2_0 v2_1 v2_2 v8_0 v8_1) (joinK (some f11l5) K) =
  laws_FnExactCVectorsOf.Z15 N v6 v8_2 v1 v7 v2_0 v2_1 v2_2 v8_0 v8_1 (fun v6 v9 v8_2 v1 v7 v2_0 v2_1 v2_2 v8_0 v8_1 => K .nrm (f11s5 v6 v9 v8_2 v1 v7 v2_0 v2_1 v2_2 v8_0 v8_1)) := by kernel_rfl
noncomputable def f11c17 := codeAt (bodyOf Try.f11) [1,1,1,1,1,1,1,1,0]
theorem f11t17 {ρ : Type} (N : Nat) (v6 : List (List Int)) (v9 v8_2 v1 : List Int) (v7 : Bool) (v2_0 v2_1 : Int) (v2_2 : List Int) (v8_0 v8_1 : Int) (K : KT ρ) : f11i N f11c17 .n (f11s5 v6 v9 v8_2 v1 v7 v2_0 v2_1 v2_2 v8_0 v8_1) (joinK (some f11l6) K) =
  laws_FnExactCVectorsOf.Z17 N v6 v9 v8_2 v1 v7 v2_0 v2_1 v2_2 v8_0 v8_1 (fun v6 v9 v10 v8_2 v1 v7 v11 v2_0 v2_1 v2_2 v8_0 v8_1 => K .nrm (f11s6 v6 v9 v10 v8_2 v1 v7 v11 v2_0 v2_1 v2_2 v8_0 v8_1)) := by kernel_rfl
noncomputable def f11c19 := codeAt (bodyOf Try.f11) [1,1,1,1,1,1,1,1,1,0]
theorem f11t19 {ρ : Type} (N : Nat) (v6 : List (List Int)) (v9 : List Int) (v10 : List (List Int)) (v8_2 v1 : List Int) (v7 v11 : Bool) (v2_0 v2_1 : Int) (v2_2 : List Int) (v8_0 v8_1 : Int) (K : KT ρ) : f11i N f11c19 .n (f11s6 v6 v9 v10 v8_2 v1 v7 v11 v2_0 v2_1 v2_2 v8_0 v8_1) (joinK (some f11l6) K) =
  laws_FnExactCVectorsOf.Z19 N v6 v9 v10 v8_2 v1 v7 v11 v2_0 v2_1 v2_2 v8_0 v8_1 (fun v6 v9 v10 v8_2 v1 v7 v11 v2_0 v2_1 v2_2 v8_0 v8_1 => K .nrm (f11s6 v6 v9 v10 v8_2 v1 v7 v11 v2_0 v2_1 v2_2 v8_0 v8_1)) (fun v4 => K .ret (f11s11 v4)) := by kernel_rfl
noncomputable def f11c21 := codeAt (bodyOf Try.f11) [1,1,1,1,1,1,1,1,1,1,0]
theorem f11t21 {ρ : Type} (N : Nat) (v6 : List (List Int)) (v9 : List Int) (v10 : List (List Int)) (v8_2 v1 : List Int) (v7 v11 : Bool) (v2_0 v2_1 : Int) (v2_2 : List Int) (v8_0 v8_1 : Int) (K : KT ρ) : f11i N f11c21 .n (f11s6 v6 v9 v10 v8_2 v1 v7 v11 v2_0 v2_1 v2_2 v8_0 v8_1) (joinK (some f11l6) K) =
  laws_FnExactCVectorsOf.Z21 N v6 v9 v10 v8_2 v1 v7 v11 v2_0 v2_1 v2_2 v8_0 v8_1 (fun v6 v9 v10 v8_2 v1 v7 v11 v2_0 v2_1 v2_2 v8_0 v8_1 => K .nrm (f11s6 v6 v9 v10 v8_2 v1 v7 v11 v2_0 v2_1 v2_2 v8_0 v8_1)) (fun v4 => K .ret (f11s11 v4)) := by kernel_rfl
noncomputable def f11c23 := codeAt (bodyOf Try.f11) [1,1,1,1,1,1,1,1,1,1,1,0]
theorem f11t23 {ρ : Type} (N : Nat) (v6 : List (List Int)) (v9 : List Int) (v10 : List (List Int)) (v8_2 v1 : List Int) (v7 v11 : Bool) (v2_0 v2_1 : Int) (v2_2 : List Int) (v8_0 v8_1 : Int) (K : KT ρ) : f11i N f11c23 .n (f11s6 v6 v9 v10 v8_2 v1 v7 v11 v2_0 v2_1 v2_2 v8_0 v8_1) (joinK (some f11l6) K) =
  laws_FnExactCVectorsOf.Z23 N v6 v9 v10 v8_2 v1 v7 v11 v2_0 v2_1 v2_2 v8_0 v8_1 (fun v6 v9 v10 v8_2 v1 v7 v11 v2_0 v2_1 v2_2 v8_0 v8_1 => K .nrm (f11s6 v6 v9 v10 v8_2 v1 v7 v11 v2_0 v2_1 v2_2 v8_0 v8_1)) (fun v4 => K .ret (f11s11 v4)) := by kernel_rfl
noncomputable def f11c25 := codeAt (bodyOf Try.f11) [1,1,1,1,1,1,1,1,1,1,1,1,0]
theorem f11t25 {ρ : Type} (N : Nat) (v6 : List (List Int)) (v9 : List Int) (v10 : List (List Int)) (v8_2 v1 : List Int) (v7 v11 : Bool) (v2_0 v2_1 : Int) (v2_2 : List Int) (v8_0 v8_1 : Int) (K : KT ρ) : f11i N f11c25 .n (f11s6 v6 v9 v10 v8_2 v1 v7 v11 v2_0 v2_1 v2_2 v8_0 v8_1) (joinK (some f11l7) K) =
  laws_FnExactCVectorsOf.Z25 N v6 v9 v10 v8_2 v1 v7 v11 v2_0 v2_1 v2_2 v8_0 v8_1 (fun v6 v9 v10 v8_2 v1 v7 v11 v12 v2_0 v2_1 v2_2 v8_0 v8_1 => K .nrm (f11s7 v6 v9 v10 v8_2 v1 v7 v11 v12 v2_0 v2_1 v2_2 v8_0 v8_1)) := by kernel_rfl
noncomputable def f11c27 := codeAt (bodyOf Try.f11) [1,1,1,1,1,1,1,1,1,1,1,1,1,0]
theorem f11t27 {ρ : Type} (N : Nat) (v6 : List (List Int)) (v9 : List Int) (v10 : List (List Int)) (v8_2 v1 : List Int) (v7 v11 : Bool) (v12 v2_0 v2_1 : Int) (v2_2 : List Int) (v8_0 v8_1 : Int) (K : KT ρ) : f11i N f11c27 .n (f11s7 v6 v9 v10 v8_2 v1 v7 v11 v12 v2_0 v2_1 v2_2 v8_0 v8_1) (joinK (some f11l8) K) =
  laws_FnExactCVectorsOf.Z27 N v6 v9 v10 v8_2 v1 v7 v11 v12 v2_0 v2_1 v2_2 v8_0 v8_1 (fun v6 v9 v10 v1 v7 v11 v12 v2_0 v2_1 v2_2 => K .nrm (f11s8 v6 v9 v10 v1 v7 v11 v12 v2_0 v2_1 v2_2)) := by kernel_rfl
noncomputable def f11c29 := codeAt (bodyOf Try.f11) [1,1,1,1,1,1,1,1,1,1,1,1,1,1,0]
theorem f11t29 {ρ : Type} (N : Nat) (v6 : List (List Int)) (v9 : List Int) (v10 : List (List Int)) (v1 : List Int) (v7 v11 : Bool) (v12 v2_0 v2_1 : Int) (v2_2 : List Int) (K : KT ρ) : f11i N f11c29 .n (f11s8 v6 v9 v10 v1 v7 v11 v12 v2_0 v2_1 v2_2) (joinK (some f11l9) K) =
  laws_FnExactCVectorsOf.Z29 N v6 v9 v10 v1 v7 v11 v12 v2_0 v2_1 v2_2 (fun v6 v10 v1 v7 v11 v12 v2_0 v2_1 v2_2 => K .nrm (f11s9 v6 v10 v1 v7 v11 v12 v2_0 v2_1 v2_2)) := by kernel_rfl
noncomputable def f11c31 := codeAt (bodyOf Try.f11) [1,1,1,1,1,1,1,1,1,1,1,1,1,1,1,0]
theorem f11t31 {ρ : Type} (N : Nat) (v6 v10 : List (List Int)) (v1 : List Int) (v7 v11 : Bool) (v12 v2_0 v2_1 : Int) (v2_2 : List Int) (K : KT ρ) : f11i N f11c31 .n (f11s9 v6 v10 v1 v7 v11 v12 v2_0 v2_1 v2_2) (joinK (some f11l10) K) =
  laws_FnExactCVectorsOf.Z31 N v6 v10 v1 v7 v11 v12 v2_0 v2_1 v2_2 (fun v6 v10 v1 v7 v2_0 v2_1 v2_2 => K .nrm (f11s10 v6 v10 v1 v7 v2_0 v2_1 v2_2)) (fun v4 => K .ret (f11s11 v4)) := by kernel_rfl
noncomputable def f11c32 := codeAt (bodyOf Try.f11) [1,1,1,1,1,1,1,1,1,1,1,1,1,1,1,1]
theorem f11t32 {ρ : Type} (N : Nat) (v6 v10 : List (List Int)) (v1 : List Int) (v7 : Bool) (v2_0 v2_1 : Int) (v2_2 : List Int) (K : KT ρ) : f11i N f11c32 .n (f11s10 v6 v10 v1 v7 v2_0 v2_1 v2_2) (joinK (some f11lE) K) =
  laws_FnExactCVectorsOf.Z32 N v6 v10 v1 v7 v2_0 v2_1 v2_2 (fun v4 => K .ret (f11s11 v4)) := by kernel_rfl
noncomputable def f11c30 := codeAt (bodyOf Try.f11) [1,1,1,1,1,1,1,1,1,1,1,1,1,1,1]
noncomputable def f11p30 : Plan := .mk (some f11l10) none .n .n
theorem f11t30 {ρ : Type} (N : Nat) (v6 v10 : List (List Int)) (v1 : List Int) (v7 v11 : Bool) (v12 v2_0 v2_1 : Int) (v2_2 : List Int) (K : KT ρ) : f11i N f11c30 f11p30 (f11s9 v6 v10 v1 v7 v11 v12 v2_0 v2_1 v2_2) (joinK (some f11lE) K) =
  laws_FnExactCVectorsOf.Z30 N v6 v10 v1 v7 v11 v12 v2_0 v2_1 v2_2 (fun v4 => K .ret (f11s11 v4)) :=
  viaSeq (fun k => laws_FnExactCVectorsOf.Z31 N v6 v10 v1 v7 v11 v12 v2_0 v2_1 v2_2 k (fun v4 => K .ret (f11s11 v4))) (by kernel_rfl) (by kernel_rfl) (f11t31 N v6 v10 v1 v7 v11 v12 v2_0 v2_1 v2_2 (seqK (fun σ => f11i N f11c32 .n σ (joinK (some f11lE) K)) (joinK (some f11lE) K))) (funext fun v6 => funext fun v10 => funext fun v1 => funext fun v7 => funext fun v2_0 => funext fun v2_1 => funext fun v2_2 => f11t32 N v6 v10 v1 v7 v2_0 v2_1 v2_2 K) (by kernel_rfl) (by kernel_rfl)
noncomputable def f11c28 := codeAt (bodyOf Try.f11) [1,1,1,1,1,1,1,1,1,1,1,1,1,1]
noncomputable def f11p28 : Plan := .mk (some f11l9) none .n f11p30
theorem f11t28 {ρ : Type} (N : Nat) (v6 : List (List Int)) (v9 : List Int) (v10 : List (List Int)) (v1 : List Int) (v7 v11 : Bool) (v12 v2_0 v2_1 : Int) (v2_2 : List Int) (K : KT ρ) : f11i N f11c28 f11p28 (f11s8 v6 v9 v10 v1 v7 v11 v12 v2_0 v2_1 v2_2) (joinK (some f11lE) K) =
  laws_FnExactCVectorsOf.Z28 N v6 v9 v10 v1 v7 v11 v12 v2_0 v2_1 v2_2 (fun v4 => K .ret (f11s11 v4)) :=
  viaSeq (fun k => laws_FnExactCVectorsOf.Z29 N v6 v9 v10 v1 v7 v11 v12 v2_0 v2_1 v2_2 k) (by kernel_rfl) (by kernel_rfl) (f11t29 N v6 v9 v10 v1 v7 v11 v12 v2_0 v2_1 v2_2 (seqK (fun σ => f11i N f11c30 f11p30 σ (joinK (some f11lE) K)) (joinK (some f11lE) K))) (funext fun v6 => funext fun v10 => funext fun v1 => funext fun v7 => funext fun v11 => funext fun v12 => funext fun v2_0 => funext fun v2_1 => funext fun v2_2 => f11t30 N v6 v10 v1 v7 v11 v12 v2_0 v2_1 v2_2 K) (by kernel_rfl) (by kernel_rfl)
noncomputable def f11c26 := codeAt (bodyOf Try.f11) [1,1,1,1,1,1,1,1,1,1,1,1,1]
noncomputable def f11p26 : Plan := .mk (some f11l8) none .n f11p28
theorem f11t26 {ρ : Type} (N : Nat) (v6 : List (List Int)) (v9 : List Int) (v10 : List (List Int)) (v8_2 v1 : List Int) (v7 v11 : Bool) (v12 v2_0 v2_1 : Int) (v2_2 : List Int) (v8_0 v8_1 : Int) (K : KT ρ) : f11i N f11c26 f11p26 (f11s7 v6 v9 v10 v8_2 v1 v7 v11 v12 v2_0 v2_1 v2_2 v8_0 v8_1) (joinK (some f11lE) K) =
  laws_FnExactCVectorsOf.Z26 N v6 v9 v10 v8_2 v1 v7 v11 v12 v2_0 v2_1 v2_2 v8_0 v8_1 (fun v4 => K .ret (f11s11 v4)) :=
  viaSeq (fun k => laws_FnExactCVectorsOf.Z27 N v6 v9 v10 v8_2 v1 v7 v11 v12 v2_0 v2_1 v2_2 v8_0 v8_1 k) (by kernel_rfl) (by kernel_rfl) (f11t27 N v6 v9 v10 v8_2 v1 v7 v11 v12 v2_0 v2_1 v2_2 v8_0 v8_1 (seqK (fun σ => f11i N f11c28 f11p28 σ (joinK (some f11lE) K)) (joinK (some f11lE) K))) (funext fun v6 => funext fun v9 => funext fun v10 => funext fun v1 => funext fun v7 => funext fun v11 => funext fun v12 => funext fun v2_0 => funext fun v2_1 => funext fun v2_2 => f11t28 N v6 v9 v10 v1 v7 v11 v12 v2_0 v2_1 v2_2 K) (by kernel_rfl) (by kernel_rfl)
noncomputable def f11c24 := codeAt (bodyOf Try.f11) [1,1,1,1,1,1,1,1,1,1,1,1]
noncomputable def f11p24 : Plan := .mk (some f11l7) none .n f11p26
theorem f11t24 {ρ : Type} (N : Nat) (v6 : List (List Int)) (v9 : List Int) (v10 : List (List Int)) (v8_2 v1 : List Int) (v7 v11 : Bool) (v2_0 v2_1 : Int) (v2_2 : List Int) (v8_0 v8_1 : Int) (K : KT ρ) : f11i N f11c24 f11p24 (f11s6 v6 v9 v10 v8_2 v1 v7 v11 v2_0 v2_1 v2_2 v8_0 v8_1) (joinK (some f11lE) K) =
  laws_FnExactCVectorsOf.Z24 N v6 v9 v10 v8_2 v1 v7 v11 v2_0 v2_1 v2_2 v8_0 v8_1 (fun v4 => K .ret (f11s11 v4)) :=
  viaSeq (fun k => laws_FnExactCVectorsOf.Z25 N v6 v9 v10 v8_2 v1 v7 v11 v2_0 v2_1 v2_2 v8_0 v8_1 k) (by kernel_rfl) (by kernel_rfl) (f11t25 N v6 v9 v10 v8_2 v1 v7 v11 v2_0 v2_1 v2_2 v8_0 v8_1 (seqK (fun σ => f11i N f11c26 f11p26 σ (joinK (some f11lE) K)) (joinK (some f11lE) K))) (funext fun v6 => funext fun v9 => funext fun v10 => funext fun v8_2 => funext fun v1 => funext fun v7 => funext fun v11 => funext fun v12 => funext fun v2_0 => funext fun v2_1 => funext fun v2_2 => funext fun v8_0 => funext fun v8_1 => f11t26 N v6 v9 v10 v8_2 v1 v7 v11 v12 v2_0 v2_1 v2_2 v8_0 v8_1 K) (by kernel_rfl) (by kernel_rfl)
noncomputable def f11c22 := codeAt (bodyOf Try.f11) [1,1,1,1,1,1,1,1,1,1,1]
noncomputable def f11p22 : Plan := .mk (some f11l6) none .n f11p24
theorem f11t22 {ρ : Type} (N : Nat) (v6 : List (List Int)) (v9 : List Int) (v10 : List (List Int)) (v8_2 v1 : List Int) (v7 v11 : Bool) (v2_0 v2_1 : Int) (v2_2 : List Int) (v8_0 v8_1 : Int) (K : KT ρ) : f11i N f11c22 f11p22 (f11s6 v6 v9 v10 v8_2 v1 v7 v11 v2_0 v2_1 v2_2 v8_0 v8_1) (joinK (some f11lE) K) =
  laws_FnExactCVectorsOf.Z22 N v6 v9 v10 v8_2 v1 v7 v11 v2_0 v2_1 v2_2 v8_0 v8_1 (fun v4 => K .ret (f11s11 v4)) :=
  viaSeq (fun k => laws_FnExactCVectorsOf.Z23 N v6 v9 v10 v8_2 v1 v7 v11 v2_0 v2_1 v2_2 v8_0 v8_1 k (fun v4 => K .ret (f11s11 v4))) (by kernel_rfl) (by kernel_rfl) (f11t23 N v6 v9 v10 v8_2 v1 v7 v11 v2_0 v2_1 v2_2 v8_0 v8_1 (seqK (fun σ => f11i N f11c24 f11p24 σ (joinK (some f11lE) K)) (joinK (some f11lE) K))) (funext fun v6 => funext fun v9 => funext fun v10 => funext fun v8_2 => funext fun v1 => funext fun v7 => funext fun v11 => funext fun v2_0 => funext fun v2_1 => funext fun v2_2 => funext fun v8_0 => funext fun v8_1 => f11t24 N v6 v9 v10 v8_2 v1 v7 v11 v2_0 v2_1 v2_2 v8_0 v8_1 K) (by kernel_rfl) (by kernel_rfl)
noncomputable def f11c20 := codeAt (bodyOf Try.f11) [1,1,1,1,1,1,1,1,1,1]
noncomputable def f11p20 : Plan := .mk (some f11l6) none .n f11p22
theorem f11t20 {ρ : Type} (N : Nat) (v6 : List (List Int)) (v9 : List Int) (v10 : List (List Int)) (v8_2 v1 : List Int) (v7 v11 : Bool) (v2_0 v2_1 : Int) (v2_2 : List Int) (v8_0 v8_1 : Int) (K : KT ρ) : f11i N f11c20 f11p20 (f11s6 v6 v9 v10 v8_2 v1 v7 v11 v2_0 v2_1 v2_2 v8_0 v8_1) (joinK (some f11lE) K) =
  laws_FnExactCVectorsOf.Z20 N v6 v9 v10 v8_2 v1 v7 v11 v2_0 v2_1 v2_2 v8_0 v8_1 (fun v4 => K .ret (f11s11 v4)) :=
  viaSeq (fun k => laws_FnExactCVectorsOf.Z21 N v6 v9 v10 v8_2 v1 v7 v11 v2_0 v2_1 v2_2 v8_0 v8_1 k (fun v4 => K .ret (f11s11 v4))) (by kernel_rfl) (by kernel_rfl) (f11t21 N v6 v9 v10 v8_2 v1 v7 v11 v2_0 v2_1 v2_2 v8_0 v8_1 (seqK (fun σ => f11i N f11c22 f11p22 σ (joinK (some f11lE) K)) (joinK (some f11lE) K))) (funext fun v6 => funext fun v9 => funext fun v10 => funext fun v8_2 => funext fun v1 => funext fun v7 => funext fun v11 => funext fun v2_0 => funext fun v2_1 => funext fun v2_2 => funext fun v8_0 => funext fun v8_1 => f11t22 N v6 v9 v10 v8_2 v1 v7 v11 v2_0 v2_1 v2_2 v8_0 v8_1 K) (by kernel_rfl) (by kernel_rfl)
noncomputable def f11c18 := codeAt (bodyOf Try.f11) [1,1,1,1,1,1,1,1,1]
noncomputable def f11p18 : Plan := .mk (some f11l6) none .n f11p20
theorem f11t18 {ρ : Type} (N : Nat) (v6 : List (List Int)) (v9 : List Int) (v10 : List (List Int)) (v8_2 v1 : List Int) (v7 v11 : Bool) (v2_0 v2_1 : Int) (v2_2 : List Int) (v8_0 v8_1 : Int) (K : KT ρ) : f11i N f11c18 f11p18 (f11s6 v6 v9 v10 v8_2 v1 v7 v11 v2_0 v2_1 v2_2 v8_0 v8_1) (joinK (some f11lE) K) =
  laws_FnExactCVectorsOf.Z18 N v6 v9 v10 v8_2 v1 v7 v11 v2_0 v2_1 v2_2 v8_0 v8_1 (fun v4 => K .ret (f11s11 v4)) :=
  viaSeq (fun k => laws_FnExactCVectorsOf.Z19 N v6 v9 v10 v8_2 v1 v7 v11 v2_0 v2_1 v2_2 v8_0 v8_1 k (fun v4 => K .ret (f11s11 v4))) (by kernel_rfl) (by kernel_rfl) (f11t19 N v6 v9 v10 v8_2 v1 v7 v11 v2_0 v2_1 v2_2 v8_0 v8_1 (seqK (fun σ => f11i N f11c20 f11p20 σ (joinK (some f11lE) K)) (joinK (some f11lE) K))) (funext fun v6 => funext fun v9 => funext fun v10 => funext fun v8_2 => funext fun v1 => funext fun v7 => funext fun v11 => funext fun v2_0 => funext fun v2_1 => funext fun v2_2 => funext fun v8_0 => funext fun v8_1 => f11t20 N v6 v9 v10 v8_2 v1 v7 v11 v2_0 v2_1 v2_2 v8_0 v8_1 K) (by kernel_rfl) (by kernel_rfl)
noncomputable def f11c16 := codeAt (bodyOf Try.f11) [1,1,1,1,1,1,1,1]
noncomputable def f11p16 : Plan := .mk (some f11l6) none .n f11p18
theorem f11t16 {ρ : Type} (N : Nat) (v6 : List (List Int)) (v9 v8_2 v1 : List Int) (v7 : Bool) (v2_0 v2_1 : Int) (v2_2 : List Int) (v8_0 v8_1 : Int) (K : KT ρ) : f11i N f11c16 f11p16 (f11s5 v6 v9 v8_2 v1 v7 v2_0 v2_1 v2_2 v8_0 v8_1) (joinK (some f11lE) K) =
  laws_FnExactCVectorsOf.Z16 N v6 v9 v8_2 v1 v7 v2_0 v2_1 v2_2 v8_0 v8_1 (fun v4 => K .ret (f11s11 v4)) :=
  viaSeq (fun k => laws_FnExactCVectorsOf.Z17 N v6 v9 v8_2 v1 v7 v2_0 v2_1 v2_2 v8_0 v8_1 k) (by kernel_rfl) (by kernel_rfl) (f11t17 N v6 v9 v8_2 v1 v7 v2_0 v2_1 v2_2 v8_0 v8_1 (seqK (fun σ => f11i N f11c18 f11p18 σ (joinK (some f11lE) K)) (joinK (some f11lE) K))) (funext fun v6 => funext fun v9 => funext fun v10 => funext fun v8_2 => funext fun v1 => funext fun v7 => funext fun v11 => funext fun v2_0 => funext fun v2_1 => funext fun v2_2 => funext fun v8_0 => funext fun v8_1 => f11t18 N v6 v9 v10 v8_2 v1 v7 v11 v2_0 v2_1 v2_2 v8_0 v8_1 K) (by kernel_rfl) (by kernel_rfl)
noncomputable def f11c14 := codeAt (bodyOf Try.f11) [1,1,1,1,1,1,1]
noncomputable def f11p14 : Plan := .mk (some f11l5) none .n f11p16
theorem f11t14 {ρ : Type} (N : Nat) (v6 : List (List Int)) (v8_2 v1 : List Int) (v7 : Bool) (v2_0 v2_1 : Int) (v2_2 : List Int) (v8_0 v8_1 : Int) (K : KT ρ) : f11i N f11c14 f11p14 (f11s4 v6 v8_2 v1 v7 v2_0 v2_1 v2_2 v8_0 v8_1) (joinK (some f11lE) K) =
  laws_FnExactCVectorsOf.Z14 N v6 v8_2 v1 v7 v2_0 v2_1 v2_2 v8_0 v8_1 (fun v4 => K .ret (f11s11 v4)) :=
  viaSeq (fun k => laws_FnExactCVectorsOf.Z15 N v6 v8_2 v1 v7 v2_0 v2_1 v2_2 v8_0 v8_1 k) (by kernel_rfl) (by kernel_rfl) (f11t15 N v6 v8_2 v1 v7 v2_0 v2_1 v2_2 v8_0 v8_1 (seqK (fun σ => f11i N f11c16 f11p16 σ (joinK (some f11lE) K)) (joinK (some f11lE) K))) (funext fun v6 => funext fun v9 => funext fun v8_2 => funext fun v1 => funext fun v7 => funext fun v2_0 => funext fun v2_1 => funext fun v2_2 => funext fun v8_0 => funext fun v8_1 => f11t16 N v6 v9 v8_2 v1 v7 v2_0 v2_1 v2_2 v8_0 v8_1 K) (by kernel_rfl) (by kernel_rfl)
noncomputable def f11c12 := codeAt (bodyOf Try.f11) [1,1,1,1,1,1]
noncomputable def f11p12 : Plan := .mk (some f11l4) none .n f11p14
theorem f11t12 {ρ : Type} (N : Nat) (v6 : List (List Int)) (v1 : List Int) (v7 : Bool) (v2_0 v2_1 : Int) (v2_2 : List Int) (K : KT ρ) : f11i N f11c12 f11p12 (f11s3 v6 v1 v7 v2_0 v2_1 v2_2) (joinK (some f11lE) K) =
  laws_FnExactCVectorsOf.Z12 N v6 v1 v7 v2_0 v2_1 v2_2 (fun v4 => K .ret (f11s11 v4)) :=
  viaSeq (fun k => laws_FnExactCVectorsOf.Z13 N v6 v1 v7 v2_0 v2_1 v2_2 k) (by kernel_rfl) (by kernel_rfl) (f11t13 N v6 v1 v7 v2_0 v2_1 v2_2 (seqK (fun σ => f11i N f11c14 f11p14 σ (joinK (some f11lE) K)) (joinK (some f11lE) K))) (funext fun v6 => funext fun v8_2 => funext fun v1 => funext fun v7 => funext fun v2_0 => funext fun v2_1 => funext fun v2_2 => funext fun v8_0 => funext fun v8_1 => f11t14 N v6 v8_2 v1 v7 v2_0 v2_1 v2_2 v8_0 v8_1 K) (by kernel_rfl) (by kernel_rfl)
noncomputable def f11c10 := codeAt (bodyOf Try.f11) [1,1,1,1,1]
noncomputable def f11p10 : Plan := .mk (some f11l3) none .n f11p12
theorem f11t10 {ρ : Type} (N : Nat) (v1 : List Int) (v2_0 v2_1 : Int) (v2_2 : List Int) (K : KT ρ) : f11i N f11c10 f11p10 (f11s1 v1 v2_0 v2_1 v2_2) (joinK (some f11lE) K) =
  laws_FnExactCVectorsOf.Z10 N v1 v2_0 v2_1 v2_2 (fun v4 => K .ret (f11s11 v4)) :=
  viaSeq (fun k => laws_FnExactCVectorsOf.Z11 N v1 v2_0 v2_1 v2_2 k) (by kernel_rfl) (by kernel_rfl) (f11t11 N v1 v2_0 v2_1 v2_2 (seqK (fun σ => f11i N f11c12 f11p12 σ (joinK (some f11lE) K)) (joinK (some f11lE) K))) (funext fun v6 => funext fun v1 => funext fun v7 => funext fun v2_0 => funext fun v2_1 => funext fun v2_2 => f11t12 N v6 v1 v7 v2_0 v2_1 v2_2 K) (by kernel_rfl) (by kernel_rfl)
noncomputable def f11c8 := codeAt (bodyOf Try.f11) [1,1,1,1]
noncomputable def f11p8 : Plan := .mk (some f11l1) none .n f11p10
theorem f11t8 {ρ : Type} (N : Nat) (v1 : List Int) (v5 v2_0 v2_1 : Int) (v2_2 : List Int) (K : KT ρ) : f11i N f11c8 f11p8 (f11s2 v1 v5 v2_0 v2_1 v2_2) (joinK (some f11lE) K) =
  laws_FnExactCVectorsOf.Z8 N v1 v5 v2_0 v2_1 v2_2 (fun v4 => K .ret (f11s11 v4)) :=
  viaSeq (fun k => laws_FnExactCVectorsOf.Z9 N v1 v5 v2_0 v2_1 v2_2 k (fun v4 => K .ret (f11s11 v4))) (by kernel_rfl) (by kernel_rfl) (f11t9 N v1 v5 v2_0 v2_1 v2_2 (seqK (fun σ => f11i N f11c10 f11p10 σ (joinK (some f11lE) K)) (joinK (some f11lE) K))) (funext fun v1 => funext fun v2_0 => funext fun v2_1 => funext fun v2_2 => f11t10 N v1 v2_0 v2_1 v2_2 K) (by kernel_rfl) (by kernel_rfl)
noncomputable def f11c6 := codeAt (bodyOf Try.f11) [1,1,1]
noncomputable def f11p6 : Plan := .mk (some f11l2) none .n f11p8
theorem f11t6 {ρ : Type} (N : Nat) (v1 : List Int) (v5 v2_0 v2_1 : Int) (v2_2 : List Int) (K : KT ρ) : f11i N f11c6 f11p6 (f11s2 v1 v5 v2_0 v2_1 v2_2) (joinK (some f11lE) K) =
  laws_FnExactCVectorsOf.Z6 N v1 v5 v2_0 v2_1 v2_2 (fun v4 => K .ret (f11s11 v4)) :=
  viaSeq (fun k => laws_FnExactCVectorsOf.Z7 N v1 v5 v2_0 v2_1 v2_2 k) (by kernel_rfl) (by kernel_rfl) (f11t7 N v1 v5 v2_0 v2_1 v2_2 (seqK (fun σ => f11i N f11c8 f11p8 σ (joinK (some f11lE) K)) (joinK (some f11lE) K))) (funext fun v1 => funext fun v5 => funext fun v2_0 => funext fun v2_1 => funext fun v2_2 => f11t8 N v1 v5 v2_0 v2_1 v2_2 K) (by kernel_rfl) (by kernel_rfl)
noncomputable def f11c4 := codeAt (bodyOf Try.f11) [1,1]
noncomputable def f11p4 : Plan := .mk (some f11l2) none .n f11p6
theorem f11t4 {ρ : Type} (N : Nat) (v1 : List Int) (v2_0 v2_1 : Int) (v2_2 : List Int) (K : KT ρ) : f11i N f11c4 f11p4 (f11s1 v1 v2_0 v2_1 v2_2) (joinK (some f11lE) K) =
  laws_FnExactCVectorsOf.Z4 N v1 v2_0 v2_1 v2_2 (fun v4 => K .ret (f11s11 v4)) :=
  viaSeq (fun k => laws_FnExactCVectorsOf.Z5 N v1 v2_0 v2_1 v2_2 k) (by kernel_rfl) (by kernel_rfl) (f11t5 N v1 v2_0 v2_1 v2_2 (seqK (fun σ => f11i N f11c6 f11p6 σ (joinK (some f11lE) K)) (joinK (some f11lE) K))) (funext fun v1 => funext fun v5 => funext fun v2_0 => funext fun v2_1 => funext fun v2_2 => f11t6 N v1 v5 v2_0 v2_1 v2_2 K) (by kernel_rfl) (by kernel_rfl)
noncomputable def f11c2 := codeAt (bodyOf Try.f11) [1]
noncomputable def f11p2 : Plan := .mk (some f11l1) none .n f11p4
theorem f11t2 {ρ : Type} (N : Nat) (v1 : List Int) (v2_0 v2_1 : Int) (v2_2 : List Int) (K : KT ρ) : f11i N f11c2 f11p2 (f11s1 v1 v2_0 v2_1 v2_2) (joinK (some f11lE) K) =
  laws_FnExactCVectorsOf.Z2 N v1 v2_0 v2_1 v2_2 (fun v4 => K .ret (f11s11 v4)) :=
  viaSeq (fun k => laws_FnExactCVectorsOf.Z3 N v1 v2_0 v2_1 v2_2 k (fun v4 => K .ret (f11s11 v4))) (by kernel_rfl) (by kernel_rfl) (f11t3 N v1 v2_0 v2_1 v2_2 (seqK (fun σ => f11i N f11c4 f11p4 σ (joinK (some f11lE) K)) (joinK (some f11lE) K))) (funext fun v1 => funext fun v2_0 => funext fun v2_1 => funext fun v2_2 => f11t4 N v1 v2_0 v2_1 v2_2 K) (by kernel_rfl) (by kernel_rfl)
noncomputable def f11c0 := codeAt (bodyOf Try.f11) []
noncomputable def f11p0 : Plan := .mk (some f11l1) none .n f11p2
theorem f11t0 {ρ : Type} (N : Nat) (v0 : Int × Int × List Int) (v1 : List Int) (K : KT ρ) : f11i N f11c0 f11p0 (f11s0 v0 v1) (joinK (some f11lE) K) =
  laws_FnExactCVectorsOf.Z0 N v0 v1 (fun v4 => K .ret (f11s11 v4)) :=
  viaSeq (fun k => laws_FnExactCVectorsOf.Z1 N v0 v1 k) (by kernel_rfl) (by kernel_rfl) (f11t1 N v0 v1 (seqK (fun σ => f11i N f11c2 f11p2 σ (joinK (some f11lE) K)) (joinK (some f11lE) K))) (funext fun v1 => funext fun v2_0 => funext fun v2_1 => funext fun v2_2 => f11t2 N v1 v2_0 v2_1 v2_2 K) (by kernel_rfl) (by kernel_rfl)
theorem f11m (N : Nat) (v0 : Int × Int × List Int) (v1 : List Int) : f11i N f11c0 f11p0 (f11s0 v0 v1) (joinK (some f11lE) (finK tab f11sig Try.f11.results.toList)) = laws_FnExactCVectorsOf.Z0 N v0 v1 (fun v4 => some ((), (v4, ()))) :=
  (f11t0 N v0 v1 (finK tab f11sig Try.f11.results.toList)).trans (by kernel_rfl)
theorem f11ok (h : laws_FnExactCVectorsOf.Spec) : EntryOk Try.prog 11 e11 :=
  entry_of_code (sig := f11sig) (c := f11c0) (pl := f11p0) (je := (some f11lE)) (B := f11B) Try.func11 (by kernel_rfl) (by kernel_rfl) (by kernel_rfl) tabOk f11GOk (by kernel_rfl) (by kernel_rfl) (by kernel_rfl) (by kernel_rfl) fun X hb hp => by
    obtain ⟨v0, v1, _⟩ := X
    obtain ⟨N, h⟩ := h v0 v1 hb.1 hb.2.1
    exact ⟨N, (f11m N v0 v1).trans (h N (Nat.le_refl N))⟩
theorem e11ok : EntryOk Try.prog 11 e11 := f11ok laws_FnExactCVectorsOf.ok
end Go.Fw
